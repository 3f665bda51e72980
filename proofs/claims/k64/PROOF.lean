import PyProof.Rows.All
import Wide.All
import OpenK.AllK
import Wide.FinOn
import HandS.ForMost
import HandS.Exc
import HandS.ExcOwn
import HandS.TryOnly
import HandS.TryMany
import HandS.ExcCtx
import HandS.HotCalls
import HandS.Flow
import HandS.Defaults
import HandS.MakeKw
import HandS.WordsExc
import HandS.Lambda
import HandS.TupAny
import HandS.Deep
import PyProof.ReprRoads
import HandS.IsInst
import HandS.SetFor
import HandS.Strs
import HandS.Conv
import HandS.ListItems
import HandS.Small
import KE.KUnpackStar
import KE.KUnpack
import HandS.Zip
import HandS.Style
import KE.GoesSet
import HandS.FStr
import HandS.Zip0
import HandS.MapObj
import KE.KDictZip
import HandS.SetKeys
import HandS.Sort
import HandS.SortOrd
import HandS.SortRule
import KE.SortData
import KE.DataMinMax
import HandS.SortInts
import HandS.Text
import HandS.RaiseMore
import HandS.HeadHook4
import HandS.ExcIs
import KE.KStateDown
import HandS.Head0
import HandS.Head1
import HandS.Head2
import HandS.HeadEnd
import HandS.HeadHook1
import HandS.HeadHook2
import HandS.HeadHook3
import HandS.EndTab
import PySem.Challenge.RW_flashkeep_k64_whole_texts
import KE.KIntText
set_option Elab.async false
set_option linter.all false
section
set_option maxRecDepth 100000
set_option maxHeartbeats 2000000
/-! EA: the data of the evaluator, its heap, how they stand for what HandS tracks. -/
namespace En
open PySem PySem.Spec PyProof.Rows L2

/-- a datum: tup and lst are values (a lst is one that is never changed any more; scr the script), ref an object of the evaluator's own heap, exc a caught exception -/
inductive D where
  | non | bl (b : Bool) | int (i : Int) | str (s : Str)
  | tup (xs : List D) | lst (xs : List D) | scr (xs : List D) | ref (i : Nat) | exc (c : Nat)
inductive O where
  | lst (xs : List D) | dct (kvs : List (Key × D)) | ins (c : Nat) (fs : List (Str × D))
abbrev Hv := List O
inductive R (α : Type) where
  | ok (a : α) (h : Hv) | exc (c : Nat) (h : Hv) | bad
def R.bind {α β : Type} (r : R α) (f : α → Hv → R β) : R β := match r with
  | .ok a h => f a h
  | .exc c h => .exc c h
  | .bad => .bad
abbrev Ev := List (Option D)
abbrev Exp := Ev → Hv → R D

/-- a tuple, a list that the program's top has written -/
def KTup (K : PySem.W.Frag) (a : Addr) (xs : List V) : Prop :=
  ∃ (o : Obj) (its : Array Value) (n : Nat), K.lookup a = some o ∧ o.cls = .type "tuple" ∧ o.data = .seq its n ∧ its.size ≤ sizeLine ∧ Vals xs its.toList
def KLst (K : PySem.W.Frag) (a : Addr) (xs : List V) : Prop :=
  ∃ (o : Obj) (its : Array Value) (n : Nat), K.lookup a = some o ∧ o.cls = .type "list" ∧ o.dict = none ∧ o.data = .seq its n ∧ its.size ≤ sizeLine ∧ Vals xs its.toList

mutual
inductive Rep (K : PySem.W.Frag) (ρ : List Addr) (H : Hp) : D → V → Prop
  | non : Rep K ρ H .non .non
  | bl (b : Bool) : Rep K ρ H (.bl b) (.bl b)
  | int (i : Int) : Rep K ρ H (.int i) (.int i)
  | str (s : Str) : Rep K ρ H (.str s) (.str s)
  | tup {ds : List D} {a : Addr} {vs : List V} (h : Rd H a (.tup vs)) (n : a ∉ ρ) (r : Reps K ρ H ds vs) : Rep K ρ H (.tup ds) (.ref a)
  | ktup {ds : List D} {a : Addr} {vs : List V} (h : KTup K a vs) (r : Reps K ρ H ds vs) : Rep K ρ H (.tup ds) (.ref a)
  | lst {ds : List D} {a : Addr} {vs : List V} (h : H a = some (.lst vs)) (n : a ∉ ρ) (r : Reps K ρ H ds vs) : Rep K ρ H (.lst ds) (.ref a)
  | scr {ds : List D} {a : Addr} {vs : List V} (h : Rd H a (.lst vs)) (n : a ∉ ρ) (r : Reps K ρ H ds vs) : Rep K ρ H (.scr ds) (.ref a)
  | kscr {ds : List D} {a : Addr} {vs : List V} (h : KLst K a vs) (r : Reps K ρ H ds vs) : Rep K ρ H (.scr ds) (.ref a)
  | ref {i : Nat} {a : Addr} (h : ρ[i]? = some a) : Rep K ρ H (.ref i) (.ref a)
inductive Reps (K : PySem.W.Frag) (ρ : List Addr) (H : Hp) : List D → List V → Prop
  | nil : Reps K ρ H [] []
  | cons {d : D} {v : V} {ds : List D} {vs : List V} (h : Rep K ρ H d v) (r : Reps K ρ H ds vs) : Reps K ρ H (d :: ds) (v :: vs)
end

/-- the classes' addresses, and the tables of code objects -/
structure CAt where
  c : Nat → Addr
  T : List (Addr × Str)
instance : CoeFun CAt fun _ => Nat → Addr := ⟨CAt.c⟩
/-- what an object of the evaluator's heap is there. CA: the classes' addresses -/
def ROb (K : PySem.W.Frag) (CA : CAt) (ρ : List Addr) (H : Hp) (a : Addr) : O → Prop
  | .lst ds => ∃ vs, H a = some (.lst vs) ∧ Reps K ρ H ds vs
  | .dct kvs => ∃ kv : List (Key × V), H a = some (.dK kv) ∧ kvs.map (·.1) = kv.map (·.1) ∧ Reps K ρ H (kvs.map (·.2)) (kv.map (·.2))
  | .ins c fs => ∃ dx fv, H a = some (.ins (CA c) dx fv) ∧ fs.map (·.1) = fv.map (·.1) ∧ Reps K ρ H (fs.map (·.2)) (fv.map (·.2))
structure Rel (K : PySem.W.Frag) (CA : CAt) (ρ : List Addr) (η : Hv) (H : Hp) : Prop where
  len : ρ.length = η.length
  nd : ρ.Nodup
  ob : ∀ (i : Nat) (o : O) (a : Addr), η[i]? = some o → ρ[i]? = some a → ROb K CA ρ H a o
  tabs : LamX.Tabs CA.T H
/-- what has happened between -/
structure Ext (ρ : List Addr) (H : Hp) (ρ' : List Addr) (H' : Hp) : Prop where
  pre : ρ <+: ρ'
  keep : ∀ a o, H a = some o → (∀ ps, o ≠ .tbl ps) → a ∉ ρ → H' a = some o
  fresh : ∀ a, a ∈ ρ' → a ∉ ρ → ∀ o, H a = some o → ∃ ps, o = .tbl ps
theorem Ext.refl (ρ : List Addr) (H : Hp) : Ext ρ H ρ H := ⟨List.prefix_refl _, fun _ _ e _ _ => e, fun _ h n => absurd h n⟩
theorem Ext.notin {ρ ρ' : List Addr} {H H' : Hp} (e : Ext ρ H ρ' H') {a : Addr} {o : HO} (h : H a = some o) (t : ∀ ps, o ≠ .tbl ps) (n : a ∉ ρ) : a ∉ ρ' := fun h1 => by
  obtain ⟨ps, q⟩ := e.fresh a h1 n o h
  exact t ps q
theorem Ext.trans {ρ ρ1 ρ2 : List Addr} {H H1 H2 : Hp} (a : Ext ρ H ρ1 H1) (b : Ext ρ1 H1 ρ2 H2) : Ext ρ H ρ2 H2 := by
  refine ⟨a.pre.trans b.pre, fun x o e t n => b.keep x o (a.keep x o e t n) t (a.notin e t n), fun x h n o e => ?_⟩
  by_cases t : ∃ ps, o = .tbl ps
  · exact t
  · have t' : ∀ ps, o ≠ .tbl ps := fun ps z => t ⟨ps, z⟩
    exact b.fresh x h (a.notin e t' n) o (a.keep x o e t' n)
theorem Ext.rd {ρ ρ' : List Addr} {H H' : Hp} (e : Ext ρ H ρ' H') {a : Addr} {o : HO} (h : Rd H a o) (n : a ∉ ρ) (t : ∀ ps, o ≠ .tbl ps := by intro ps z; cases z) : Rd H' a o ∧ a ∉ ρ' := by
  rcases h with h | ⟨u, h⟩
  · exact ⟨.inl (e.keep a _ h t n), e.notin h t n⟩
  · exact ⟨.inr ⟨u, e.keep a _ h (fun _ z => nomatch z) n⟩, e.notin h (fun _ z => nomatch z) n⟩
theorem Ext.at {ρ ρ' : List Addr} {H H' : Hp} (e : Ext ρ H ρ' H') {i : Nat} {a : Addr} (h : ρ[i]? = some a) : ρ'[i]? = some a := by
  obtain ⟨t, rfl⟩ := e.pre
  have hi : i < ρ.length := (List.getElem?_eq_some_iff.mp h).1
  rw [List.getElem?_append_left hi]
  exact h
/-- a step of the script heap that only tables feel -/
theorem Ext.ofN {ρ : List Addr} {H H' : Hp} (e : LamX.ExtN H H') : Ext ρ H ρ H' := ⟨List.prefix_refl _, fun a o h t _ => e a o h t, fun _ h n => absurd h n⟩
section
variable {K : PySem.W.Frag} {CA : CAt} {ρ ρ' : List Addr} {H H' : Hp}
mutual
theorem Rep.mono (e : Ext ρ H ρ' H') : ∀ {d : D} {v : V}, Rep K ρ H d v → Rep K ρ' H' d v
  | _, _, .non => .non
  | _, _, .bl b => .bl b
  | _, _, .int i => .int i
  | _, _, .str s => .str s
  | _, _, .tup h n r => .tup (e.rd h n).1 (e.rd h n).2 (Reps.mono e r)
  | _, _, .ktup h r => .ktup h (Reps.mono e r)
  | _, _, .lst h n r => .lst (e.keep _ _ h (fun _ z => nomatch z) n) (e.notin h (fun _ z => nomatch z) n) (Reps.mono e r)
  | _, _, .scr h n r => .scr (e.rd h n).1 (e.rd h n).2 (Reps.mono e r)
  | _, _, .kscr h r => .kscr h (Reps.mono e r)
  | _, _, .ref h => .ref (e.at h)
theorem Reps.mono (e : Ext ρ H ρ' H') : ∀ {d : List D} {v : List V}, Reps K ρ H d v → Reps K ρ' H' d v
  | _, _, .nil => .nil
  | _, _, .cons h r => .cons (Rep.mono e h) (Reps.mono e r)
end
theorem Reps.length : ∀ {ds : List D} {vs : List V}, Reps K ρ H ds vs → ds.length = vs.length
  | _, _, .nil => rfl
  | _, _, .cons _ r => congrArg Nat.succ (Reps.length r)
theorem Reps.get : ∀ {ds : List D} {vs : List V} {i : Nat} {d : D}, Reps K ρ H ds vs → ds[i]? = some d → ∃ v, vs[i]? = some v ∧ Rep K ρ H d v
  | _, _, _, _, .nil, e => by simp at e
  | _, _, 0, _, .cons h _, e => by simp at e; subst e; exact ⟨_, rfl, h⟩
  | _, _, i + 1, d, .cons _ r, e => by
    obtain ⟨v, h1, h2⟩ := Reps.get (i := i) (d := d) r (by simpa using e)
    exact ⟨v, by simpa using h1, h2⟩
theorem Reps.getV : ∀ {ds : List D} {vs : List V} {i : Nat} {v : V}, Reps K ρ H ds vs → vs[i]? = some v → ∃ d, ds[i]? = some d ∧ Rep K ρ H d v
  | _, _, _, _, .nil, e => by simp at e
  | _, _, 0, _, .cons h _, e => by simp at e; subst e; exact ⟨_, rfl, h⟩
  | _, _, i + 1, v, .cons _ r, e => by
    obtain ⟨d, h1, h2⟩ := Reps.getV (i := i) (v := v) r (by simpa using e)
    exact ⟨d, by simpa using h1, h2⟩
theorem Reps.app : ∀ {ds es : List D} {vs us : List V}, Reps K ρ H ds vs → Reps K ρ H es us → Reps K ρ H (ds ++ es) (vs ++ us)
  | _, _, _, _, .nil, r => r
  | _, _, _, _, .cons h t, r => .cons h (Reps.app t r)
theorem Reps.set {d : D} {v : V} (h : Rep K ρ H d v) : ∀ {ds : List D} {vs : List V} (i : Nat), Reps K ρ H ds vs → Reps K ρ H (ds.set i d) (vs.set i v)
  | _, _, _, .nil => .nil
  | _, _, 0, .cons _ t => .cons h t
  | _, _, i + 1, .cons g t => .cons g (Reps.set h i t)
theorem Reps.take : ∀ {ds : List D} {vs : List V} (n : Nat), Reps K ρ H ds vs → Reps K ρ H (ds.take n) (vs.take n)
  | _, _, 0, _ => .nil
  | _, _, _ + 1, .nil => .nil
  | _, _, n + 1, .cons g t => .cons g (Reps.take n t)
theorem Reps.drop : ∀ {ds : List D} {vs : List V} (n : Nat), Reps K ρ H ds vs → Reps K ρ H (ds.drop n) (vs.drop n)
  | _, _, 0, r => r
  | _, _, _ + 1, .nil => .nil
  | _, _, n + 1, .cons _ t => Reps.drop n t
theorem Reps.rev : ∀ {ds : List D} {vs : List V}, Reps K ρ H ds vs → Reps K ρ H ds.reverse vs.reverse
  | _, _, .nil => .nil
  | _, _, .cons g t => by
    rw [List.reverse_cons, List.reverse_cons]
    exact Reps.app (Reps.rev t) (.cons g .nil)
theorem Reps.eraseIdx : ∀ {ds : List D} {vs : List V} (n : Nat), Reps K ρ H ds vs → Reps K ρ H (ds.eraseIdx n) (vs.eraseIdx n)
  | _, _, _, .nil => .nil
  | _, _, 0, .cons _ t => t
  | _, _, n + 1, .cons g t => .cons g (Reps.eraseIdx n t)
theorem Reps.repl {d : D} {v : V} (h : Rep K ρ H d v) : ∀ n : Nat, Reps K ρ H (List.replicate n d) (List.replicate n v)
  | 0 => .nil
  | n + 1 => .cons h (Reps.repl h n)
theorem Reps.flat {ds : List D} {vs : List V} (h : Reps K ρ H ds vs) : ∀ n : Nat, Reps K ρ H (List.replicate n ds).flatten (List.replicate n vs).flatten
  | 0 => .nil
  | n + 1 => by
    rw [List.replicate_succ, List.replicate_succ, List.flatten_cons, List.flatten_cons]
    exact Reps.app h (Reps.flat h n)
theorem Reps.ints : ∀ (ns : List Int), Reps K ρ H (ns.map D.int) (ns.map V.int)
  | [] => .nil
  | i :: r => .cons (.int i) (Reps.ints r)
/-- what is kept, told of an object that none of what has happened concerns -/
theorem ROb.mono (e : Ext ρ H ρ' H') {a : Addr} {o : O} (hk : H' a = H a) (h : ROb K CA ρ H a o) : ROb K CA ρ' H' a o := by
  cases o with
  | lst ds => obtain ⟨vs, h1, h2⟩ := h; exact ⟨vs, hk.trans h1, h2.mono e⟩
  | dct kvs => obtain ⟨kv, h1, h2, h3⟩ := h; exact ⟨kv, hk.trans h1, h2, h3.mono e⟩
  | ins c fs => obtain ⟨dx, fv, h1, h2, h3⟩ := h; exact ⟨dx, fv, hk.trans h1, h2, h3.mono e⟩
/-- no table, no code object -/
def NoTab (u : HO) : Prop := (∀ ps, u ≠ .tbl ps) ∧ ∀ c q, u ≠ LamX.CodeO c q
theorem ROb.some {a : Addr} {o : O} (h : ROb K CA ρ H a o) : ∃ u, H a = some u ∧ NoTab u := by
  have key : ∀ u : HO, (∀ ps, u ≠ .tbl ps) → (∀ p, u ≠ .ext p) → NoTab u := fun u h1 h2 => ⟨h1, fun c q z => by unfold LamX.CodeO at z; exact h2 _ z⟩
  cases o with
  | lst ds => obtain ⟨vs, h1, h2⟩ := h; exact ⟨_, h1, key _ (fun _ z => nomatch z) (fun _ z => nomatch z)⟩
  | dct kvs => obtain ⟨kv, h1, h2, h3⟩ := h; exact ⟨_, h1, key _ (fun _ z => nomatch z) (fun _ z => nomatch z)⟩
  | ins c fs => obtain ⟨dx, fv, h1, h2, h3⟩ := h; exact ⟨_, h1, key _ (fun _ z => nomatch z) (fun _ z => nomatch z)⟩
theorem Rel.mem {η : Hv} (r : Rel K CA ρ η H) {a : Addr} (h : a ∈ ρ) : ∃ (i : Nat) (o : O), ρ[i]? = some a ∧ η[i]? = some o ∧ ROb K CA ρ H a o := by
  obtain ⟨i, hi, e⟩ := List.mem_iff_getElem.mp h
  have h1 : ρ[i]? = some a := by rw [List.getElem?_eq_getElem hi, e]
  have h2 : i < η.length := by rw [← r.len]; exact hi
  exact ⟨i, η[i], h1, List.getElem?_eq_getElem h2, r.ob i _ a (List.getElem?_eq_getElem h2) h1⟩
theorem Rel.tracked {η : Hv} (r : Rel K CA ρ η H) {a : Addr} (h : a ∈ ρ) : ∃ u, H a = some u := by
  obtain ⟨i, o, _, _, h3⟩ := r.mem h
  obtain ⟨u, h4, _⟩ := h3.some
  exact ⟨u, h4⟩
theorem Rel.free {η : Hv} (r : Rel K CA ρ η H) {p : Addr} (h : H p = none) : p ∉ ρ := fun hm => by
  obtain ⟨u, e⟩ := r.tracked hm
  rw [h] at e
  cases e
theorem Rel.addr {η : Hv} (r : Rel K CA ρ η H) {i : Nat} {o : O} (h : η[i]? = some o) : ∃ a, ρ[i]? = some a ∧ ROb K CA ρ H a o := by
  have hi : i < η.length := (List.getElem?_eq_some_iff.mp h).1
  have h2 : i < ρ.length := by rw [r.len]; exact hi
  exact ⟨ρ[i], List.getElem?_eq_getElem h2, r.ob i o _ h (List.getElem?_eq_getElem h2)⟩
/-- something new that the evaluator doesn't hold (a tuple, a block's list, a dict's record) -/
theorem Ext.new {p : Addr} {o : HO} {η : Hv} (r : Rel K CA ρ η H) (h : H p = none) : Ext ρ H ρ (upd H p o) := by
  refine ⟨List.prefix_refl _, fun a u e _ _ => ?_, fun _ h n => absurd h n⟩
  rw [upd_ne (ne_of_none e h)]
  exact e
theorem Rel.ext {η : Hv} (r : Rel K CA ρ η H) (e : Ext ρ H ρ H') (k : ∀ a, a ∈ ρ → H' a = H a) (t : LamX.Tabs CA.T H') : Rel K CA ρ η H' :=
  ⟨r.len, r.nd, fun i o a h1 h2 => (r.ob i o a h1 h2).mono e (k a (List.mem_of_getElem? h2)), t⟩
theorem tabs_new {p : Addr} {o : HO} (t : LamX.Tabs CA.T H) (h : H p = none) : LamX.Tabs CA.T (upd H p o) :=
  t.ext fun b u e => by rw [upd_ne (ne_of_none e h)]; exact e
theorem tabs_put {p : Addr} {o u : HO} (t : LamX.Tabs CA.T H) (h : H p = some u) (nt : NoTab u) : LamX.Tabs CA.T (upd H p o) := fun x hx => by
  obtain ⟨ps, h1, h2, h3⟩ := t x hx
  have key : ∀ b w, H b = some w → (w ≠ u) → upd H p o b = some w := fun b w e n => by
    rw [upd_ne fun z => n (by rw [z, h] at e; exact (Option.some.inj e).symm)]
    exact e
  refine ⟨ps, key _ _ h1 fun z => nt.1 ps z.symm, h2, fun pos cv hc => ?_⟩
  obtain ⟨c, e1, e2⟩ := h3 pos cv hc
  exact ⟨c, e1, key _ _ e2 fun z => nt.2 c x.2 z.symm⟩
/-- tables alone have changed -/
theorem Rel.ofN {η : Hv} (r : Rel K CA ρ η H) (e : LamX.ExtN H H') (t : LamX.Tabs CA.T H') : Rel K CA ρ η H' :=
  r.ext (.ofN e) (fun a ha => by
    obtain ⟨i, o, _, _, h3⟩ := r.mem ha
    obtain ⟨u, h4, h5, _⟩ := h3.some
    rw [h4]
    exact e a u h4 h5) t
theorem Rel.new {p : Addr} {o : HO} {η : Hv} (r : Rel K CA ρ η H) (h : H p = none) : Rel K CA ρ η (upd H p o) :=
  r.ext (Ext.new r h) (fun a ha => upd_ne fun e => r.free h (e ▸ ha)) (tabs_new r.tabs h)
/-- a new object of the evaluator's heap -/
theorem Ext.alloc {p : Addr} {o : HO} (h : H p = none) (n : p ∉ ρ) : Ext ρ H (ρ ++ [p]) (upd H p o) := by
  refine ⟨List.prefix_append _ _, fun a u e _ _ => ?_, fun a h1 h2 o e => ?_⟩
  · rw [upd_ne (ne_of_none e h)]
    exact e
  · rcases List.mem_append.mp h1 with h3 | h3
    · exact absurd h3 h2
    · rw [List.mem_singleton.mp h3, h] at e
      cases e
theorem Rel.alloc {p : Addr} {u : HO} {o : O} {η : Hv} (r : Rel K CA ρ η H) (h : H p = none) (new : ROb K CA (ρ ++ [p]) (upd H p u) p o) : Rel K CA (ρ ++ [p]) (η ++ [o]) (upd H p u) := by
  have n := r.free h
  refine ⟨by rw [List.length_append, List.length_append, r.len]; rfl, ?_, fun i q a h1 h2 => ?_, tabs_new r.tabs h⟩
  · exact List.nodup_append.mpr ⟨r.nd, by simp, fun a ha b hb e => n (by rw [List.mem_singleton.mp hb] at e; rw [← e]; exact ha)⟩
  · by_cases hi : i < η.length
    · rw [List.getElem?_append_left hi] at h1
      rw [List.getElem?_append_left (by rw [r.len]; exact hi)] at h2
      exact (r.ob i q a h1 h2).mono (Ext.alloc h n) (upd_ne fun e => n (e ▸ List.mem_of_getElem? h2))
    · have hj : i = η.length := by
        have := (List.getElem?_eq_some_iff.mp h1).1
        rw [List.length_append] at this
        simp at this
        omega
      subst hj
      rw [List.getElem?_append_right (Nat.le_refl _), Nat.sub_self] at h1
      rw [List.getElem?_append_right (by rw [r.len]; exact Nat.le_refl _), r.len, Nat.sub_self] at h2
      cases h1
      cases h2
      exact new
theorem rep_last {p : Addr} {η : Hv} (r : Rel K CA ρ η H) : Rep K (ρ ++ [p]) H' (.ref η.length) (.ref p) := .ref (by
  rw [List.getElem?_append_right (by rw [r.len]; exact Nat.le_refl _), r.len, Nat.sub_self]; rfl)
/-- an object of the heap is changed -/
theorem Ext.put {a : Addr} {o : HO} (h : a ∈ ρ) : Ext ρ H ρ (upd H a o) := by
  refine ⟨List.prefix_refl _, fun b u e _ n => ?_, fun _ h n => absurd h n⟩
  rw [upd_ne fun z => n (by rw [z]; exact h)]
  exact e
theorem Rel.put {i : Nat} {a : Addr} {u : HO} {o : O} {η : Hv} (r : Rel K CA ρ η H) (h : ρ[i]? = some a) (new : ROb K CA ρ (upd H a u) a o) : Rel K CA ρ (η.set i o) (upd H a u) := by
  have hm := List.mem_of_getElem? h
  refine ⟨by rw [List.length_set]; exact r.len, r.nd, fun j q b h1 h2 => ?_, ?_⟩
  case refine_2 =>
    obtain ⟨j, q, _, _, h3⟩ := r.mem hm
    obtain ⟨w, h4, h5⟩ := h3.some
    exact tabs_put r.tabs h4 h5
  by_cases e : i = j
  · subst e
    rw [h] at h2
    cases h2
    rw [List.getElem?_set_self (by rw [← r.len]; exact (List.getElem?_eq_some_iff.mp h).1)] at h1
    cases h1
    exact new
  · rw [List.getElem?_set_ne e] at h1
    refine (r.ob j q b h1 h2).mono (Ext.put hm) (upd_ne fun z => e ?_)
    subst z
    exact nd_ix r.nd h h2
end
/-- the slots -/
structure EnvR (K : PySem.W.Frag) (ρ : List Addr) (H : Hp) (env : Ev) (σ : L2.St) : Prop where
  len : env.length = σ.length
  at_ : ∀ (i : Nat) (d : D), env[i]? = some (some d) → ∃ v, σ[i]? = some (some v) ∧ Rep K ρ H d v
theorem EnvR.mono {K : PySem.W.Frag} {ρ ρ' : List Addr} {H H' : Hp} {env : Ev} {σ : L2.St} (h : EnvR K ρ H env σ) (e : Ext ρ H ρ' H') : EnvR K ρ' H' env σ :=
  ⟨h.len, fun i d x => let ⟨v, h1, h2⟩ := h.at_ i d x; ⟨v, h1, h2.mono e⟩⟩
theorem EnvR.set {K : PySem.W.Frag} {ρ : List Addr} {H : Hp} {env : Ev} {σ : L2.St} (h : EnvR K ρ H env σ) (i : Nat) {d : D} {v : V} (r : Rep K ρ H d v) : EnvR K ρ H (env.set i (some d)) (σ.set i (some v)) := by
  refine ⟨by rw [List.length_set, List.length_set]; exact h.len, fun j x e => ?_⟩
  by_cases q : i = j
  · subst q
    have hi : i < env.length := by
      by_cases hi : i < env.length
      · exact hi
      · rw [List.getElem?_eq_none (by rw [List.length_set]; omega)] at e
        cases e
    rw [List.getElem?_set_self hi] at e
    cases e
    exact ⟨v, List.getElem?_set_self (by rw [← h.len]; exact hi), r⟩
  · rw [List.getElem?_set_ne q] at e
    rw [List.getElem?_set_ne q]
    exact h.at_ j x e
end En
end

section
set_option maxRecDepth 100000
set_option maxHeartbeats 2000000
/-! EB: what the evaluator's ends say; the parts' readings, one behind the other. -/
namespace En
open PySem PySem.Spec PyProof.Rows L2

/-- a statement's end -/
inductive RS where
  | nxt (env : Ev) (h : Hv) | ret (d : D) (h : Hv) | brk (env : Ev) (h : Hv) | cnt (env : Ev) (h : Hv) | exc (c : Nat) (env : Ev) (h : Hv) | bad
abbrev Stm := Ev → Hv → RS

/-- where classes and exception classes stand -/
structure Ad where
  C : CAt
  X : Nat → Addr

section
variable (K : PySem.W.Frag) (a : Ad)
/-- an expression's end, from where the slots and the heap are so -/
def Out (W : L2.St → XK) (σ : L2.St) (ρ : List Addr) (H : Hp) (r : R D) (Q : VK) : Prop := match r with
  | .ok d η => ∀ ρ' H' v, Ext ρ H ρ' H' → Rel K a.C ρ' η H' → Rep K ρ' H' d v → Q v H'
  | .exc c η => ∀ ρ' H', Ext ρ H ρ' H' → Rel K a.C ρ' η H' → W σ (.ref (a.X c)) none H'
  | .bad => False
/-- the same of several values -/
def Outs (W : L2.St → XK) (σ : L2.St) (ρ : List Addr) (H : Hp) (r : R (List D)) (Q : List V → Hp → Prop) : Prop := match r with
  | .ok ds η => ∀ ρ' H' vs, Ext ρ H ρ' H' → Rel K a.C ρ' η H' → Reps K ρ' H' ds vs → Q vs H'
  | .exc c η => ∀ ρ' H', Ext ρ H ρ' H' → Rel K a.C ρ' η H' → W σ (.ref (a.X c)) none H'
  | .bad => False
/-- of a bool -/
def OutB (W : L2.St → XK) (σ : L2.St) (ρ : List Addr) (H : Hp) (r : R Bool) (Q : Bool → Hp → Prop) : Prop := match r with
  | .ok b η => ∀ ρ' H', Ext ρ H ρ' H' → Rel K a.C ρ' η H' → Q b H'
  | .exc c η => ∀ ρ' H', Ext ρ H ρ' H' → Rel K a.C ρ' η H' → W σ (.ref (a.X c)) none H'
  | .bad => False
def OutS (W : L2.St → XK) (ρ : List Addr) (H : Hp) (r : RS) (T : Ends) : Prop := match r with
  | .nxt env η => ∀ ρ' H' σ', Ext ρ H ρ' H' → Rel K a.C ρ' η H' → EnvR K ρ' H' env σ' → T.nx σ' H'
  | .ret d η => ∀ ρ' H' v, Ext ρ H ρ' H' → Rel K a.C ρ' η H' → Rep K ρ' H' d v → T.rt v H'
  | .brk env η => ∀ ρ' H' σ', Ext ρ H ρ' H' → Rel K a.C ρ' η H' → EnvR K ρ' H' env σ' → T.bk σ' H'
  | .cnt env η => ∀ ρ' H' σ', Ext ρ H ρ' H' → Rel K a.C ρ' η H' → EnvR K ρ' H' env σ' → T.ct σ' H'
  | .exc c env η => ∀ ρ' H' σ', Ext ρ H ρ' H' → Rel K a.C ρ' η H' → EnvR K ρ' H' env σ' → W σ' (.ref (a.X c)) none H'
  | .bad => False
/-- the readings that the evaluator gives -/
def tE (W : L2.St → XK) (m : Exp) : TE := fun σ H Q => ∃ ρ η env, Rel K a.C ρ η H ∧ EnvR K ρ H env σ ∧ Out K a W σ ρ H (m env η) Q
def tL (W : L2.St → XK) (m : Ev → Hv → R (List D)) : TA := fun σ H Q => ∃ ρ η env, Rel K a.C ρ η H ∧ EnvR K ρ H env σ ∧ Outs K a W σ ρ H (m env η) Q
def tT (W : L2.St → XK) (m : Ev → Hv → R Bool) : TT := fun σ H Q => ∃ ρ η env, Rel K a.C ρ η H ∧ EnvR K ρ H env σ ∧ OutB K a W σ ρ H (m env η) Q
def tS (W : L2.St → XK) (m : Stm) : TS := fun T σ H => ∃ ρ η env, Rel K a.C ρ η H ∧ EnvR K ρ H env σ ∧ OutS K a W ρ H (m env η) T
end
section
variable {K : PySem.W.Frag} {a : Ad} {W : L2.St → XK} {σ : L2.St} {ρ ρ1 : List Addr} {H H1 : Hp} {Q : VK}
theorem Out.ext (e : Ext ρ H ρ1 H1) {r : R D} (h : Out K a W σ ρ H r Q) : Out K a W σ ρ1 H1 r Q := by
  cases r with
  | ok d η => exact fun ρ' H' v e' => h ρ' H' v (e.trans e')
  | exc c η => exact fun ρ' H' e' => h ρ' H' (e.trans e')
  | bad => exact h
theorem Outs.ext {Q : List V → Hp → Prop} (e : Ext ρ H ρ1 H1) {r : R (List D)} (h : Outs K a W σ ρ H r Q) : Outs K a W σ ρ1 H1 r Q := by
  cases r with
  | ok d η => exact fun ρ' H' v e' => h ρ' H' v (e.trans e')
  | exc c η => exact fun ρ' H' e' => h ρ' H' (e.trans e')
  | bad => exact h
theorem OutB.ext {Q : Bool → Hp → Prop} (e : Ext ρ H ρ1 H1) {r : R Bool} (h : OutB K a W σ ρ H r Q) : OutB K a W σ ρ1 H1 r Q := by
  cases r with
  | ok d η => exact fun ρ' H' e' => h ρ' H' (e.trans e')
  | exc c η => exact fun ρ' H' e' => h ρ' H' (e.trans e')
  | bad => exact h
theorem OutS.ext {T : Ends} (e : Ext ρ H ρ1 H1) {r : RS} (h : OutS K a W ρ H r T) : OutS K a W ρ1 H1 r T := by
  cases r with
  | nxt env η => exact fun ρ' H' v e' => h ρ' H' v (e.trans e')
  | ret env η => exact fun ρ' H' v e' => h ρ' H' v (e.trans e')
  | brk env η => exact fun ρ' H' v e' => h ρ' H' v (e.trans e')
  | cnt env η => exact fun ρ' H' v e' => h ρ' H' v (e.trans e')
  | exc c env η => exact fun ρ' H' v e' => h ρ' H' v (e.trans e')
  | bad => exact h
/-- an expression, and what is done with its value: the rest is asked at the place that it brings -/
theorem tE.thn {m : Exp} {env : Ev} {η : Hv} {R' : VK} (rel : Rel K a.C ρ η H) (er : EnvR K ρ H env σ)
    (hok : ∀ d η1, m env η = .ok d η1 → ∀ ρ1 H1 v, Ext ρ H ρ1 H1 → Rel K a.C ρ1 η1 H1 → EnvR K ρ1 H1 env σ → Rep K ρ1 H1 d v → R' v H1)
    (hex : ∀ c η1, m env η = .exc c η1 → ∀ ρ1 H1, Ext ρ H ρ1 H1 → Rel K a.C ρ1 η1 H1 → W σ (.ref (a.X c)) none H1) (hb : m env η ≠ .bad) : tE K a W m σ H R' := by
  refine ⟨ρ, η, env, rel, er, ?_⟩
  cases q : m env η with
  | ok d η1 => exact fun ρ1 H1 v e r rp => hok d η1 q ρ1 H1 v e r (er.mono e) rp
  | exc c η1 => exact fun ρ1 H1 e r => hex c η1 q ρ1 H1 e r
  | bad => exact absurd q hb
/-- .. where the whole is a bind -/
theorem tE.bind {m : Exp} {k : D → Hv → R D} {env : Ev} {η : Hv} {R' : VK} (rel : Rel K a.C ρ η H) (er : EnvR K ρ H env σ) (h : Out K a W σ ρ H ((m env η).bind k) Q)
    (hk : ∀ d η1 ρ1 H1 v, Ext ρ H ρ1 H1 → Rel K a.C ρ1 η1 H1 → EnvR K ρ1 H1 env σ → Rep K ρ1 H1 d v → Out K a W σ ρ1 H1 (k d η1) Q → R' v H1) : tE K a W m σ H R' := by
  refine tE.thn rel er (fun d η1 q ρ1 H1 v e r er1 rp => ?_) (fun c η1 q ρ1 H1 e r => ?_) fun q => ?_
  · rw [q] at h
    exact hk d η1 ρ1 H1 v e r er1 rp (Out.ext e h)
  · rw [q] at h
    exact h ρ1 H1 e r
  · rw [q] at h
    exact h
theorem tE.bindB {m : Exp} {k : D → Hv → R Bool} {env : Ev} {η : Hv} {R' : VK} {Q : Bool → Hp → Prop} (rel : Rel K a.C ρ η H) (er : EnvR K ρ H env σ) (h : OutB K a W σ ρ H ((m env η).bind k) Q)
    (hk : ∀ d η1 ρ1 H1 v, Ext ρ H ρ1 H1 → Rel K a.C ρ1 η1 H1 → EnvR K ρ1 H1 env σ → Rep K ρ1 H1 d v → OutB K a W σ ρ1 H1 (k d η1) Q → R' v H1) : tE K a W m σ H R' := by
  refine tE.thn rel er (fun d η1 q ρ1 H1 v e r er1 rp => ?_) (fun c η1 q ρ1 H1 e r => ?_) fun q => ?_
  · rw [q] at h
    exact hk d η1 ρ1 H1 v e r er1 rp (OutB.ext e h)
  · rw [q] at h
    exact h ρ1 H1 e r
  · rw [q] at h
    exact h
theorem tE.bindL {m : Exp} {k : D → Hv → R (List D)} {env : Ev} {η : Hv} {R' : VK} {Q : List V → Hp → Prop} (rel : Rel K a.C ρ η H) (er : EnvR K ρ H env σ) (h : Outs K a W σ ρ H ((m env η).bind k) Q)
    (hk : ∀ d η1 ρ1 H1 v, Ext ρ H ρ1 H1 → Rel K a.C ρ1 η1 H1 → EnvR K ρ1 H1 env σ → Rep K ρ1 H1 d v → Outs K a W σ ρ1 H1 (k d η1) Q → R' v H1) : tE K a W m σ H R' := by
  refine tE.thn rel er (fun d η1 q ρ1 H1 v e r er1 rp => ?_) (fun c η1 q ρ1 H1 e r => ?_) fun q => ?_
  · rw [q] at h
    exact hk d η1 ρ1 H1 v e r er1 rp (Outs.ext e h)
  · rw [q] at h
    exact h ρ1 H1 e r
  · rw [q] at h
    exact h
/-- several values, and what is done with them -/
theorem tL.bind {m : Ev → Hv → R (List D)} {k : List D → Hv → R D} {env : Ev} {η : Hv} {R' : List V → Hp → Prop} (rel : Rel K a.C ρ η H) (er : EnvR K ρ H env σ) (h : Out K a W σ ρ H ((m env η).bind k) Q)
    (hk : ∀ ds η1 ρ1 H1 vs, Ext ρ H ρ1 H1 → Rel K a.C ρ1 η1 H1 → EnvR K ρ1 H1 env σ → Reps K ρ1 H1 ds vs → Out K a W σ ρ1 H1 (k ds η1) Q → R' vs H1) : tL K a W m σ H R' := by
  refine ⟨ρ, η, env, rel, er, ?_⟩
  cases q : m env η with
  | ok d η1 =>
    rw [q] at h
    exact fun ρ1 H1 v e r rp => hk d η1 ρ1 H1 v e r (er.mono e) rp (Out.ext e h)
  | exc c η1 =>
    rw [q] at h
    exact fun ρ1 H1 e r => h ρ1 H1 e r
  | bad =>
    rw [q] at h
    exact h
theorem tL.bindL {m : Ev → Hv → R (List D)} {k : List D → Hv → R (List D)} {env : Ev} {η : Hv} {R' Q : List V → Hp → Prop} (rel : Rel K a.C ρ η H) (er : EnvR K ρ H env σ) (h : Outs K a W σ ρ H ((m env η).bind k) Q)
    (hk : ∀ ds η1 ρ1 H1 vs, Ext ρ H ρ1 H1 → Rel K a.C ρ1 η1 H1 → EnvR K ρ1 H1 env σ → Reps K ρ1 H1 ds vs → Outs K a W σ ρ1 H1 (k ds η1) Q → R' vs H1) : tL K a W m σ H R' := by
  refine ⟨ρ, η, env, rel, er, ?_⟩
  cases q : m env η with
  | ok d η1 =>
    rw [q] at h
    exact fun ρ1 H1 v e r rp => hk d η1 ρ1 H1 v e r (er.mono e) rp (Outs.ext e h)
  | exc c η1 =>
    rw [q] at h
    exact fun ρ1 H1 e r => h ρ1 H1 e r
  | bad =>
    rw [q] at h
    exact h
/-- a test, and what is done behind it -/
theorem tT.bind {m : Ev → Hv → R Bool} {k : Bool → Hv → R D} {env : Ev} {η : Hv} {R' : Bool → Hp → Prop} (rel : Rel K a.C ρ η H) (er : EnvR K ρ H env σ) (h : Out K a W σ ρ H ((m env η).bind k) Q)
    (hk : ∀ b η1 ρ1 H1, Ext ρ H ρ1 H1 → Rel K a.C ρ1 η1 H1 → EnvR K ρ1 H1 env σ → Out K a W σ ρ1 H1 (k b η1) Q → R' b H1) : tT K a W m σ H R' := by
  refine ⟨ρ, η, env, rel, er, ?_⟩
  cases q : m env η with
  | ok d η1 =>
    rw [q] at h
    exact fun ρ1 H1 e r => hk d η1 ρ1 H1 e r (er.mono e) (Out.ext e h)
  | exc c η1 =>
    rw [q] at h
    exact fun ρ1 H1 e r => h ρ1 H1 e r
  | bad =>
    rw [q] at h
    exact h
theorem tT.bindB {m : Ev → Hv → R Bool} {k : Bool → Hv → R Bool} {env : Ev} {η : Hv} {R' Q : Bool → Hp → Prop} (rel : Rel K a.C ρ η H) (er : EnvR K ρ H env σ) (h : OutB K a W σ ρ H ((m env η).bind k) Q)
    (hk : ∀ b η1 ρ1 H1, Ext ρ H ρ1 H1 → Rel K a.C ρ1 η1 H1 → EnvR K ρ1 H1 env σ → OutB K a W σ ρ1 H1 (k b η1) Q → R' b H1) : tT K a W m σ H R' := by
  refine ⟨ρ, η, env, rel, er, ?_⟩
  cases q : m env η with
  | ok d η1 =>
    rw [q] at h
    exact fun ρ1 H1 e r => hk d η1 ρ1 H1 e r (er.mono e) (OutB.ext e h)
  | exc c η1 =>
    rw [q] at h
    exact fun ρ1 H1 e r => h ρ1 H1 e r
  | bad =>
    rw [q] at h
    exact h
/-- an expression in a statement -/
def RS.ofE (r : R D) (env : Ev) (k : D → Hv → RS) : RS := match r with
  | .ok d η => k d η
  | .exc c η => .exc c env η
  | .bad => .bad
theorem tE.bindS {m : Exp} {k : D → Hv → RS} {env : Ev} {η : Hv} {R' : VK} {T : Ends} (rel : Rel K a.C ρ η H) (er : EnvR K ρ H env σ) (h : OutS K a W ρ H (RS.ofE (m env η) env k) T)
    (hk : ∀ d η1 ρ1 H1 v, Ext ρ H ρ1 H1 → Rel K a.C ρ1 η1 H1 → EnvR K ρ1 H1 env σ → Rep K ρ1 H1 d v → OutS K a W ρ1 H1 (k d η1) T → R' v H1) : tE K a W m σ H R' := by
  refine tE.thn rel er (fun d η1 q ρ1 H1 v e r er1 rp => ?_) (fun c η1 q ρ1 H1 e r => ?_) fun q => ?_
  · rw [q] at h
    exact hk d η1 ρ1 H1 v e r er1 rp (OutS.ext e h)
  · rw [q] at h
    exact h ρ1 H1 σ e r (er.mono e)
  · rw [q] at h
    exact h
def RS.ofB (r : R Bool) (env : Ev) (k : Bool → Hv → RS) : RS := match r with
  | .ok d η => k d η
  | .exc c η => .exc c env η
  | .bad => .bad
theorem tT.bindS {m : Ev → Hv → R Bool} {k : Bool → Hv → RS} {env : Ev} {η : Hv} {R' : Bool → Hp → Prop} {T : Ends} (rel : Rel K a.C ρ η H) (er : EnvR K ρ H env σ) (h : OutS K a W ρ H (RS.ofB (m env η) env k) T)
    (hk : ∀ d η1 ρ1 H1, Ext ρ H ρ1 H1 → Rel K a.C ρ1 η1 H1 → EnvR K ρ1 H1 env σ → OutS K a W ρ1 H1 (k d η1) T → R' d H1) : tT K a W m σ H R' := by
  refine ⟨ρ, η, env, rel, er, ?_⟩
  cases q : m env η with
  | ok d η1 =>
    rw [q] at h
    exact fun ρ1 H1 e r => hk d η1 ρ1 H1 e r (er.mono e) (OutS.ext e h)
  | exc c η1 =>
    rw [q] at h
    exact fun ρ1 H1 e r => h ρ1 H1 σ e r (er.mono e)
  | bad =>
    rw [q] at h
    exact h
end

/-! ### what an operator by values asks -/
section
variable (K : PySem.W.Frag) (a : Ad)
/-- the evaluator's operator, and the layer's reading by values -/
def Op1 (f : D → Hv → R D) (r : V → Hp → VK → Prop) : Prop := ∀ (W : L2.St → XK) (σ : L2.St) (ρ : List Addr) (η : Hv) (H : Hp) (d : D) (v : V) (Q : VK), Rel K a.C ρ η H → Rep K ρ H d v → Out K a W σ ρ H (f d η) Q → r v H Q
def Op2 (f : D → D → Hv → R D) (r : V → V → Hp → VK → Prop) : Prop := ∀ (W : L2.St → XK) (σ : L2.St) (ρ : List Addr) (η : Hv) (H : Hp) (d e : D) (v u : V) (Q : VK), Rel K a.C ρ η H → Rep K ρ H d v → Rep K ρ H e u → Out K a W σ ρ H (f d e η) Q → r v u H Q
end
def x2 (f : D → D → Hv → R D) (m n : Exp) : Exp := fun env η => (m env η).bind fun x η1 => (n env η1).bind fun y η2 => f x y η2
def x1 (f : D → Hv → R D) (m : Exp) : Exp := fun env η => (m env η).bind fun x η1 => f x η1
section
variable {K : PySem.W.Frag} {a : Ad} {W : L2.St → XK}
theorem tOp_of {f : D → D → Hv → R D} {r : R2} {m n : Exp} (hf : Op2 K a f r) {σ : L2.St} {H : Hp} {Q : VK} (h : tE K a W (x2 f m n) σ H Q) : tOp r (tE K a W m) (tE K a W n) σ H Q := by
  obtain ⟨ρ, η, env, rel, er, h⟩ := h
  refine tE.bind rel er h fun x η1 ρ1 H1 v e1 r1 er1 p1 h1 => ?_
  refine tE.bind r1 er1 h1 fun y η2 ρ2 H2 u e2 r2 er2 p2 h2 => ?_
  exact hf W σ ρ2 η2 H2 x y v u Q r2 (p1.mono e2) p2 h2
theorem tUn_of {f : D → Hv → R D} {r : V → Hp → VK → Prop} {m : Exp} (hf : Op1 K a f r) {σ : L2.St} {H : Hp} {Q : VK} (h : tE K a W (x1 f m) σ H Q) : tUn r (tE K a W m) σ H Q := by
  obtain ⟨ρ, η, env, rel, er, h⟩ := h
  exact tE.bind rel er h fun x η1 ρ1 H1 v e1 r1 er1 p1 h1 => hf W σ ρ1 η1 H1 x v Q r1 p1 h1
end
theorem _root_.L2.PE.imp {X : Cx} {e : Expr} {t t' : TE} (h : PE X e t) (i : ∀ σ H Q, t' σ H Q → t σ H Q) : PE X e t' := ⟨fun pins s σ H Q I q => h.run pins s σ H Q I (i σ H Q q)⟩
theorem _root_.L2.PT.imp {X : Cx} {e : Expr} {t t' : TT} (h : PT X e t) (i : ∀ σ H Q, t' σ H Q → t σ H Q) : PT X e t' := ⟨fun pins s σ H Q I q => h.run pins s σ H Q I (i σ H Q q)⟩
theorem _root_.L2.PA.imp {X : Cx} {e : List Expr} {t t' : TA} (h : PA X e t) (i : ∀ σ H Q, t' σ H Q → t σ H Q) : PA X e t' := ⟨fun pos pins s σ H Q I q => h.run pos pins s σ H Q I (i σ H Q q)⟩
theorem _root_.L2.PS.imp {X : Cx} {e : Stmt} {t t' : TS} (h : PS X e t) (i : ∀ T σ H, t' T σ H → t T σ H) : PS X e t' := ⟨fun pins s σ H T I q => h.run pins s σ H T I (i T σ H q)⟩
theorem _root_.L2.PSs.imp {X : Cx} {e : List Stmt} {t t' : TS} (h : PSs X e t) (i : ∀ T σ H, t' T σ H → t T σ H) : PSs X e t' := ⟨fun pins s σ H T I q => h.run pins s σ H T I (i T σ H q)⟩
end En
end

section
set_option maxRecDepth 100000
set_option maxHeartbeats 2000000
/-! EC: operators by values. -/
namespace En
open PySem PySem.Spec PyProof.Rows L2

/-! ### data as the library's own -/
mutual
def pyD (rf : Nat → Option PyData) : D → Option PyData
  | .non => some .none
  | .bl b => some (.bool b)
  | .int i => some (.int i)
  | .str s => some (.str s)
  | .tup xs => (pyL rf xs).map .tuple
  | .lst xs => (pyL rf xs).map .list
  | .ref i => rf i
  | .scr xs => (pyL rf xs).map .list
  | .exc _ => none
def pyL (rf : Nat → Option PyData) : List D → Option (List PyData)
  | [] => some []
  | d :: r => match pyD rf d, pyL rf r with
    | some x, some xs => some (x :: xs)
    | _, _ => none
end
/-- what an object of the heap is, its lists so deep -/
def pyR (η : Hv) : Nat → Nat → Option PyData
  | 0, _ => none
  | n + 1, i => match η[i]? with
    | some (.lst xs) => (pyL (pyR η n) xs).map .list
    | _ => none
def py (η : Hv) (d : D) : Option PyData := pyD (pyR η 4) d

section
variable {K : PySem.W.Frag} {a : Ad} {ρ : List Addr} {H : Hp} {η : Hv}
theorem Rep.sqT {ds : List D} {v : V} (r : Rep K ρ H (.tup ds) v) : ∃ p vs, v = .ref p ∧ SqT K H p vs ∧ Reps K ρ H ds vs := by
  cases r with
  | tup h n r => exact ⟨_, _, rfl, .inl h, r⟩
  | ktup h r => exact ⟨_, _, rfl, .inr h, r⟩
theorem Rep.sqL {ds : List D} {v : V} (r : Rep K ρ H (.lst ds) v) : ∃ p vs, v = .ref p ∧ H p = some (.lst vs) ∧ Reps K ρ H ds vs := by
  cases r with
  | lst h n r => exact ⟨_, _, rfl, h, r⟩
theorem Rep.sqS {ds : List D} {v : V} (r : Rep K ρ H (.scr ds) v) : ∃ p vs, v = .ref p ∧ SqL K H p vs ∧ Reps K ρ H ds vs := by
  cases r with
  | scr h n r => exact ⟨_, _, rfl, .inl h, r⟩
  | kscr h r => exact ⟨_, _, rfl, .inr h, r⟩
theorem Rel.lst (r : Rel K a.C ρ η H) {i : Nat} {xs : List D} {v : V} (h : η[i]? = some (.lst xs)) (rp : Rep K ρ H (.ref i) v) : ∃ p vs, v = .ref p ∧ ρ[i]? = some p ∧ H p = some (.lst vs) ∧ Reps K ρ H xs vs := by
  cases rp with
  | ref hp =>
    obtain ⟨q, hq, ob⟩ := r.addr h
    rw [hp] at hq
    cases hq
    obtain ⟨vs, h1, h2⟩ := ob
    exact ⟨_, vs, rfl, hp, h1, h2⟩
theorem Rel.dct (r : Rel K a.C ρ η H) {i : Nat} {kvs : List (Key × D)} {v : V} (h : η[i]? = some (.dct kvs)) (rp : Rep K ρ H (.ref i) v) :
    ∃ p kv, v = .ref p ∧ ρ[i]? = some p ∧ H p = some (.dK kv) ∧ kvs.map (·.1) = kv.map (·.1) ∧ Reps K ρ H (kvs.map (·.2)) (kv.map (·.2)) := by
  cases rp with
  | ref hp =>
    obtain ⟨q, hq, ob⟩ := r.addr h
    rw [hp] at hq
    cases hq
    obtain ⟨vs, h1, h2, h3⟩ := ob
    exact ⟨_, vs, rfl, hp, h1, h2, h3⟩
theorem Rel.ins (r : Rel K a.C ρ η H) {i c : Nat} {fs : List (Str × D)} {v : V} (h : η[i]? = some (.ins c fs)) (rp : Rep K ρ H (.ref i) v) :
    ∃ p dx fv, v = .ref p ∧ ρ[i]? = some p ∧ H p = some (.ins (a.C c) dx fv) ∧ fs.map (·.1) = fv.map (·.1) ∧ Reps K ρ H (fs.map (·.2)) (fv.map (·.2)) := by
  cases rp with
  | ref hp =>
    obtain ⟨q, hq, ob⟩ := r.addr h
    rw [hp] at hq
    cases hq
    obtain ⟨dx, vs, h1, h2, h3⟩ := ob
    exact ⟨_, dx, vs, rfl, hp, h1, h2, h3⟩
mutual
theorem dp_of {rf : Nat → Option PyData} (hr : ∀ i x v, rf i = some x → Rep K ρ H (.ref i) v → Dp K H v x) : ∀ {d : D} {v : V} {x : PyData}, Rep K ρ H d v → pyD rf d = some x → Dp K H v x
  | _, _, _, .non, h => by cases h; exact .non
  | _, _, _, .bl b, h => by cases h; exact .bl b
  | _, _, _, .int i, h => by cases h; exact .int i
  | _, _, _, .str s, h => by cases h; exact .str s
  | _, _, _, .tup (ds := ds) h0 n r, h => by
    unfold pyD at h
    cases q : pyL rf ds with
    | none => rw [q] at h; cases h
    | some xs => rw [q] at h; cases h; exact .tup (.inl h0) (dps_of hr r q)
  | _, _, _, .ktup (ds := ds) h0 r, h => by
    unfold pyD at h
    cases q : pyL rf ds with
    | none => rw [q] at h; cases h
    | some xs => rw [q] at h; cases h; exact .tup (.inr h0) (dps_of hr r q)
  | _, _, _, .lst (ds := ds) h0 n r, h => by
    unfold pyD at h
    cases q : pyL rf ds with
    | none => rw [q] at h; cases h
    | some xs => rw [q] at h; cases h; exact .lst (.inl (.inl h0)) (dps_of hr r q)
  | _, _, _, .scr (ds := ds) h0 n r, h => by
    unfold pyD at h
    cases q : pyL rf ds with
    | none => rw [q] at h; cases h
    | some xs => rw [q] at h; cases h; exact .lst (.inl h0) (dps_of hr r q)
  | _, _, _, .kscr (ds := ds) h0 r, h => by
    unfold pyD at h
    cases q : pyL rf ds with
    | none => rw [q] at h; cases h
    | some xs => rw [q] at h; cases h; exact .lst (.inr h0) (dps_of hr r q)
  | _, _, _, .ref (i := i) h0, h => hr i _ _ h (.ref h0)
theorem dps_of {rf : Nat → Option PyData} (hr : ∀ i x v, rf i = some x → Rep K ρ H (.ref i) v → Dp K H v x) : ∀ {d : List D} {v : List V} {x : List PyData}, Reps K ρ H d v → pyL rf d = some x → DpAll K H v x
  | _, _, _, .nil, h => by cases h; exact .nil
  | _, _, _, .cons (d := d) (ds := ds) h0 r, h => by
    unfold pyL at h
    cases q : pyD rf d with
    | none => rw [q] at h; simp at h
    | some x =>
      cases q2 : pyL rf ds with
      | none => rw [q, q2] at h; simp at h
      | some xs => rw [q, q2] at h; cases h; exact .cons (dp_of hr h0 q) (dps_of hr r q2)
end
theorem dpR_of (r : Rel K a.C ρ η H) : ∀ (n i : Nat) (x : PyData) (v : V), pyR η n i = some x → Rep K ρ H (.ref i) v → Dp K H v x
  | 0, _, _, _, h, _ => by cases h
  | n + 1, i, x, v, h, rp => by
    unfold pyR at h
    cases q : η[i]? with
    | none => rw [q] at h; cases h
    | some o =>
      cases o with
      | lst xs =>
        rw [q] at h
        cases q2 : pyL (pyR η n) xs with
        | none => simp only [q2] at h; cases h
        | some ys =>
          simp only [q2] at h
          cases h
          obtain ⟨p, vs, rfl, _, h1, h2⟩ := r.lst q rp
          exact .lst (.inl (.inl h1)) (dps_of (dpR_of r n) h2 q2)
      | dct _ => rw [q] at h; cases h
      | ins _ _ => rw [q] at h; cases h
theorem py_of (r : Rel K a.C ρ η H) {d : D} {v : V} {x : PyData} (rp : Rep K ρ H d v) (h : py η d = some x) : Dp K H v x := dp_of (dpR_of r 4) rp h
end

/-! ### arithmetic -/
def okI (i : Int) (η : Hv) : R D := .ok (.int i) η
def okB (b : Bool) (η : Hv) : R D := .ok (.bl b) η
/-- a new list -/
def newL (xs : List D) (η : Hv) : R D := .ok (.ref η.length) (η ++ [.lst xs])
/-- the items of a list -/
def lstOf (η : Hv) : D → Option (List D)
  | .lst xs => some xs
  | .ref i => match η[i]? with
    | some (.lst xs) => some xs
    | _ => none
  | _ => none
def seqOf (η : Hv) : D → Option (List D)
  | .tup xs => some xs
  | .scr xs => some xs
  | d => lstOf η d
def addD (d e : D) (η : Hv) : R D := match d, e with
  | .int i, .int j => okI (i + j) η
  | .str x, .str y => if x.length + y.length ≤ sizeLine then .ok (.str (x ++ y)) η else .bad
  | .tup xs, .tup ys => if xs.length + ys.length ≤ sizeLine then .ok (.tup (xs ++ ys)) η else .bad
  | d, e => match lstOf η d, lstOf η e with
    | some xs, some ys => if xs.length + ys.length ≤ sizeLine then newL (xs ++ ys) η else .bad
    | _, _ => .bad
def subD (d e : D) (η : Hv) : R D := match d, e with
  | .int i, .int j => okI (i - j) η
  | _, _ => .bad
def small (i : Int) : Bool := decide (-(2 ^ 64) < i) && decide (i < 2 ^ 64)
def mulD (d e : D) (η : Hv) : R D := match d, e with
  | .int i, .int j => if small i || small j then okI (i * j) η else .bad
  | d, .int k => match lstOf η d with
    | some xs => if -(2 ^ 63) ≤ k ∧ k < 2 ^ 63 ∧ xs.length * k.toNat ≤ sizeLine then newL (List.replicate k.toNat xs).flatten η else .bad
    | none => .bad
  | _, _ => .bad
def modD (d e : D) (η : Hv) : R D := match d, e with
  | .int i, .int j => if 0 < j then okI (i % j) η else .bad
  | _, _ => .bad
def fdivD (d e : D) (η : Hv) : R D := match d, e with
  | .int i, .int j => if 0 < j ∧ j < 1073741824 then okI (i / j) η else .bad
  | _, _ => .bad
def powD (d e : D) (η : Hv) : R D := match d, e with
  | .int i, .int j => if 0 ≤ j ∧ j ≤ 1000000 ∧ i.natAbs < 2 ^ 64 then okI (i ^ j.toNat) η else .bad
  | _, _ => .bad
def shlD (d e : D) (η : Hv) : R D := match d, e with
  | .int i, .int j => if 0 ≤ j ∧ j ≤ 1000000 ∧ i.natAbs < 2 ^ 64 then okI (i * 2 ^ j.toNat) η else .bad
  | _, _ => .bad
def shrD (d e : D) (η : Hv) : R D := match d, e with
  | .int i, .int j => if 0 ≤ j then okI (i / 2 ^ j.toNat) η else .bad
  | _, _ => .bad
def andD (d e : D) (η : Hv) : R D := match d, e with
  | .int i, .int j => okI (Builtin.bitAnd i j) η
  | _, _ => .bad
def xorD (d e : D) (η : Hv) : R D := match d, e with
  | .int i, .int j => okI (Builtin.bitXor i j) η
  | _, _ => .bad
def negD (d : D) (η : Hv) : R D := match d with
  | .int i => okI (-i) η
  | _ => .bad
def binF : Operator → D → D → Hv → R D
  | .Add => addD
  | .Sub => subD
  | .Mult => mulD
  | .Mod => modD
  | .FloorDiv => fdivD
  | .Pow => powD
  | .LShift => shlD
  | .RShift => shrD
  | .BitAnd => andD
  | .BitXor => xorD
  | _ => fun _ _ _ => .bad

section
variable {K : PySem.W.Frag} {a : Ad}
theorem Out.okv {W : L2.St → XK} {σ : L2.St} {ρ : List Addr} {η : Hv} {H : Hp} {Q : VK} {d : D} {v : V} (r : Rel K a.C ρ η H) (h : Out K a W σ ρ H (.ok d η) Q) (p : Rep K ρ H d v) : Q v H := h ρ H v (Ext.refl ρ H) r p
/-- a new list is laid -/
theorem Out.newl {W : L2.St → XK} {σ : L2.St} {ρ : List Addr} {η : Hv} {H : Hp} {Q : VK} {xs : List D} {vs : List V} (r : Rel K a.C ρ η H) (h : Out K a W σ ρ H (newL xs η) Q) (p : Reps K ρ H xs vs) (q : Addr) (n : H q = none) :
    Q (.ref q) (upd H q (.lst vs)) := by
  have e := Ext.alloc (o := .lst vs) n (r.free n)
  exact h _ _ _ e (r.alloc n ⟨vs, upd_same, p.mono e⟩) (rep_last r)
/-- a new tuple -/
theorem Out.newt {W : L2.St → XK} {σ : L2.St} {ρ : List Addr} {η : Hv} {H : Hp} {Q : VK} {xs : List D} {vs : List V} (r : Rel K a.C ρ η H) (h : Out K a W σ ρ H (.ok (.tup xs) η) Q) (p : Reps K ρ H xs vs) (q : Addr) (n : H q = none) :
    Q (.ref q) (upd H q (.tup vs)) := by
  have e := Ext.new (o := .tup vs) r n
  exact h _ _ _ e (r.new n) (.tup (.inl upd_same) (r.free n) (p.mono e))
theorem Rel.lstOf {ρ : List Addr} {η : Hv} {H : Hp} (r : Rel K a.C ρ η H) {d : D} {v : V} {xs : List D} (h : lstOf η d = some xs) (p : Rep K ρ H d v) : ∃ q vs, v = .ref q ∧ H q = some (.lst vs) ∧ Reps K ρ H xs vs := by
  cases d with
  | lst ds => cases h; exact p.sqL
  | ref i =>
    have h1 : (match η[i]? with | some (.lst xs) => some xs | _ => none) = some xs := h
    split at h1
    · rename_i ys q
      cases h1
      obtain ⟨p1, vs, e, _, h2, h3⟩ := r.lst q p
      exact ⟨p1, vs, e, h2, h3⟩
    · cases h1
  | _ => cases h
theorem Rel.seqOf {ρ : List Addr} {η : Hv} {H : Hp} (r : Rel K a.C ρ η H) {d : D} {v : V} {xs : List D} (h : seqOf η d = some xs) (p : Rep K ρ H d v) : ∃ q vs, v = .ref q ∧ (SqL K H q vs ∨ SqT K H q vs) ∧ Reps K ρ H xs vs := by
  have other : En.lstOf η d = some xs → ∃ q vs, v = .ref q ∧ (SqL K H q vs ∨ SqT K H q vs) ∧ Reps K ρ H xs vs := fun h => by
    obtain ⟨q, vs, e, h1, h2⟩ := r.lstOf h p
    exact ⟨q, vs, e, .inl (.inl (.inl h1)), h2⟩
  cases d with
  | tup ds =>
    cases h
    obtain ⟨q, vs, e, h1, h2⟩ := p.sqT
    exact ⟨q, vs, e, .inr h1, h2⟩
  | scr ds =>
    cases h
    obtain ⟨q, vs, e, h1, h2⟩ := p.sqS
    exact ⟨q, vs, e, .inl h1, h2⟩
  | _ => exact other h
end
end En
end

section
set_option maxRecDepth 100000
set_option maxHeartbeats 2000000
/-! ED: the operators' soundness. -/
namespace En
open PySem PySem.Spec PyProof.Rows L2

theorem if_bad {c : Prop} [Decidable c] {r : R D} {K : PySem.W.Frag} {a : Ad} {W : L2.St → XK} {σ : L2.St} {ρ : List Addr} {H : Hp} {Q : VK} (h : Out K a W σ ρ H (if c then r else .bad) Q) : c ∧ Out K a W σ ρ H r Q := by
  by_cases q : c
  · rw [if_pos q] at h; exact ⟨q, h⟩
  · rw [if_neg q] at h; exact h.elim
section
variable {X : Cx} {a : Ad}
theorem Rep.intv {K : PySem.W.Frag} {ρ : List Addr} {H : Hp} {i : Int} {v : V} (r : Rep K ρ H (.int i) v) : v = .int i := by cases r; rfl
theorem Rep.strv {K : PySem.W.Frag} {ρ : List Addr} {H : Hp} {i : Str} {v : V} (r : Rep K ρ H (.str i) v) : v = .str i := by cases r; rfl
theorem Rep.blv {K : PySem.W.Frag} {ρ : List Addr} {H : Hp} {i : Bool} {v : V} (r : Rep K ρ H (.bl i) v) : v = .bl i := by cases r; rfl
theorem Rep.nonv {K : PySem.W.Frag} {ρ : List Addr} {H : Hp} {v : V} (r : Rep K ρ H .non v) : v = .non := by cases r; rfl

/-- the shape of the operators over ints alone -/
theorem op_ints {f : D → D → Hv → R D} {C : Int → Int → Prop} {g : Int → Int → Int} (hf : ∀ d e η, (∃ i j, d = .int i ∧ e = .int j ∧ (f d e η = .bad ∨ (C i j ∧ f d e η = okI (g i j) η))) ∨ f d e η = .bad) : Op2 X.K a f (rI C fun i j => .int (g i j)) := by
  intro W σ ρ η H d e v u Q rel pd pe h
  rcases hf d e η with ⟨i, j, rfl, rfl, q | ⟨c, q⟩⟩ | q
  · rw [q] at h; exact h.elim
  · rw [q] at h
    exact ⟨i, j, pd.intv, pe.intv, c, Out.okv rel h (.int _)⟩
  · rw [q] at h; exact h.elim
theorem op_mod' : OpR X (binaryOp .Mod) (rI (fun _ j => 0 < j) fun i j => .int (i % j)) ∧ Op2 X.K a modD (rI (fun _ j => 0 < j) fun i j => .int (i % j)) := by
  refine ⟨op_mod, op_ints fun d e η => ?_⟩
  cases d <;> cases e <;> first | exact .inr rfl | skip
  rename_i i j
  refine .inl ⟨i, j, rfl, rfl, ?_⟩
  by_cases q : 0 < j
  · exact .inr ⟨q, if_pos q⟩
  · exact .inl (if_neg q)
theorem op_fdiv' : OpR X (binaryOp .FloorDiv) (rI CDiv fun i j => .int (i / j)) ∧ Op2 X.K a fdivD (rI CDiv fun i j => .int (i / j)) := by
  refine ⟨op_fdiv, op_ints fun d e η => ?_⟩
  cases d <;> cases e <;> first | exact .inr rfl | skip
  rename_i i j
  refine .inl ⟨i, j, rfl, rfl, ?_⟩
  by_cases q : 0 < j ∧ j < 1073741824
  · exact .inr ⟨q, if_pos q⟩
  · exact .inl (if_neg q)
theorem op_pow' : OpR X (binaryOp .Pow) (rI CPow fun i j => .int (i ^ j.toNat)) ∧ Op2 X.K a powD (rI CPow fun i j => .int (i ^ j.toNat)) := by
  refine ⟨op_pow, op_ints fun d e η => ?_⟩
  cases d <;> cases e <;> first | exact .inr rfl | skip
  rename_i i j
  refine .inl ⟨i, j, rfl, rfl, ?_⟩
  by_cases q : 0 ≤ j ∧ j ≤ 1000000 ∧ i.natAbs < 2 ^ 64
  · exact .inr ⟨q, if_pos q⟩
  · exact .inl (if_neg q)
theorem op_shl' : OpR X (binaryOp .LShift) (rI CPow fun i j => .int (i * 2 ^ j.toNat)) ∧ Op2 X.K a shlD (rI CPow fun i j => .int (i * 2 ^ j.toNat)) := by
  refine ⟨op_shl, op_ints fun d e η => ?_⟩
  cases d <;> cases e <;> first | exact .inr rfl | skip
  rename_i i j
  refine .inl ⟨i, j, rfl, rfl, ?_⟩
  by_cases q : 0 ≤ j ∧ j ≤ 1000000 ∧ i.natAbs < 2 ^ 64
  · exact .inr ⟨q, if_pos q⟩
  · exact .inl (if_neg q)
theorem op_shr' : OpR X (binaryOp .RShift) (rI (fun _ j => 0 ≤ j) fun i j => .int (i / 2 ^ j.toNat)) ∧ Op2 X.K a shrD (rI (fun _ j => 0 ≤ j) fun i j => .int (i / 2 ^ j.toNat)) := by
  refine ⟨op_shr, op_ints fun d e η => ?_⟩
  cases d <;> cases e <;> first | exact .inr rfl | skip
  rename_i i j
  refine .inl ⟨i, j, rfl, rfl, ?_⟩
  by_cases q : 0 ≤ j
  · exact .inr ⟨q, if_pos q⟩
  · exact .inl (if_neg q)
theorem op_i0 {f : D → D → Hv → R D} {o : Operator} {g : Int → Int → Int} (ho : OpR X (binaryOp o) (rI0 fun i j => .int (g i j))) (hf : ∀ d e η, (∃ i j, d = .int i ∧ e = .int j ∧ f d e η = okI (g i j) η) ∨ f d e η = .bad) :
    OpR X (binaryOp o) (rI0 fun i j => .int (g i j)) ∧ Op2 X.K a f (rI0 fun i j => .int (g i j)) := by
  refine ⟨ho, fun W σ ρ η H d e v u Q rel pd pe h => ?_⟩
  rcases hf d e η with ⟨i, j, rfl, rfl, q⟩ | q
  · rw [q] at h
    exact ⟨i, j, pd.intv, pe.intv, Out.okv rel h (.int _)⟩
  · rw [q] at h; exact h.elim
theorem op_sub' : OpR X (binaryOp .Sub) (rI0 fun i j => .int (i - j)) ∧ Op2 X.K a subD (rI0 fun i j => .int (i - j)) := op_i0 op_sub fun d e η => by
  cases d <;> cases e <;> first | exact .inr rfl | exact .inl ⟨_, _, rfl, rfl, rfl⟩
theorem op_and' : OpR X (binaryOp .BitAnd) (rI0 fun i j => .int (Builtin.bitAnd i j)) ∧ Op2 X.K a andD (rI0 fun i j => .int (Builtin.bitAnd i j)) := op_i0 op_and fun d e η => by
  cases d <;> cases e <;> first | exact .inr rfl | exact .inl ⟨_, _, rfl, rfl, rfl⟩
theorem op_xor' : OpR X (binaryOp .BitXor) (rI0 fun i j => .int (Builtin.bitXor i j)) ∧ Op2 X.K a xorD (rI0 fun i j => .int (Builtin.bitXor i j)) := op_i0 op_xor fun d e η => by
  cases d <;> cases e <;> first | exact .inr rfl | exact .inl ⟨_, _, rfl, rfl, rfl⟩
theorem un_neg' : UnR X (unaryOp .USub) (rU fun i => .int (-i)) ∧ Op1 X.K a negD (rU fun i => .int (-i)) := by
  refine ⟨un_neg, fun W σ ρ η H d v Q rel pd h => ?_⟩
  cases d with
  | int i => exact ⟨i, pd.intv, Out.okv rel h (.int _)⟩
  | _ => exact h.elim

def rAddL : R2 := fun x y H Q => rCat x y H Q
theorem op_add' : ∃ r, OpR X (binaryOp .Add) r ∧ Op2 X.K a addD r := by
  refine ⟨_, OpR.or op_add (OpR.or op_add_str (OpR.or op_catA op_cat)), fun W σ ρ η H d e v u Q rel pd pe h => ?_⟩
  have lists : Out X.K a W σ ρ H (match lstOf η d, lstOf η e with
    | some xs, some ys => if xs.length + ys.length ≤ sizeLine then newL (xs ++ ys) η else .bad
    | _, _ => .bad) Q → rCat v u H Q := fun h => by
    cases q1 : lstOf η d with
    | none => rw [q1] at h; exact h.elim
    | some xs =>
      cases q2 : lstOf η e with
      | none => rw [q1, q2] at h; exact h.elim
      | some ys =>
        rw [q1, q2] at h
        obtain ⟨c, h⟩ := if_bad h
        obtain ⟨p, vs, rfl, h1, r1⟩ := rel.lstOf q1 pd
        obtain ⟨p2, vs2, rfl, h2, r2⟩ := rel.lstOf q2 pe
        refine ⟨p, p2, vs, vs2, rfl, rfl, h1, h2, by rw [← r1.length, ← r2.length]; exact c, fun z nz => Out.newl rel h (r1.app r2) z nz⟩
  cases d with
  | int i =>
    cases e with
    | int j => exact .inl ⟨i, j, pd.intv, pe.intv, Out.okv rel h (.int _)⟩
    | _ => exact .inr (.inr (.inr (lists h)))
  | str i =>
    cases e with
    | str j =>
      obtain ⟨c, h⟩ := if_bad h
      exact .inr (.inl ⟨i, j, pd.strv, pe.strv, c, Out.okv rel h (.str _)⟩)
    | _ => exact .inr (.inr (.inr (lists h)))
  | tup xs =>
    cases e with
    | tup ys =>
      obtain ⟨c, h⟩ := if_bad h
      obtain ⟨p, vs, rfl, h1, r1⟩ := pd.sqT
      obtain ⟨p2, vs2, rfl, h2, r2⟩ := pe.sqT
      refine .inr (.inr (.inl ⟨p, p2, vs, vs2, rfl, rfl, h1, h2, by rw [← r1.length, ← r2.length]; exact c, fun z => ?_, fun _ z => ?_, fun _ _ z nz => Out.newt rel h (r1.app r2) z nz⟩))
      · subst z
        cases r1
        exact Out.okv rel h pe
      · subst z
        cases r2
        rw [List.append_nil] at h
        exact Out.okv rel h pd
    | _ => exact .inr (.inr (.inr (lists h)))
  | _ => exact .inr (.inr (.inr (lists h)))
theorem op_mul' : ∃ r, OpR X (binaryOp .Mult) r ∧ Op2 X.K a mulD r := by
  refine ⟨_, OpR.or op_mul op_rep, fun W σ ρ η H d e v u Q rel pd pe h => ?_⟩
  have lists : ∀ k, e = .int k → Out X.K a W σ ρ H (match lstOf η d with
    | some xs => if -(2 ^ 63) ≤ k ∧ k < 2 ^ 63 ∧ xs.length * k.toNat ≤ sizeLine then newL (List.replicate k.toNat xs).flatten η else .bad
    | none => .bad) Q → rRep v u H Q := fun k e1 h9 => by
    subst e1
    cases q1 : lstOf η d with
    | none => rw [q1] at h9; exact h9.elim
    | some xs =>
      rw [q1] at h9
      obtain ⟨⟨c1, c2, c3⟩, h⟩ := if_bad h9
      obtain ⟨p, vs, rfl, h1, r1⟩ := rel.lstOf q1 pd
      refine ⟨p, k, vs, rfl, pe.intv, h1, c1, c2, by rw [← r1.length]; exact c3, fun z nz => Out.newl rel h (r1.flat _) z nz⟩
  cases e with
  | int k =>
    cases d with
    | int i =>
      obtain ⟨c, h⟩ := if_bad h
      refine .inl ⟨i, k, pd.intv, pe.intv, ?_, Out.okv rel h (.int _)⟩
      simp only [small, Bool.or_eq_true, Bool.and_eq_true, decide_eq_true_eq] at c
      exact c
    | _ => exact .inr (lists _ rfl h)
  | _ => cases d <;> exact h.elim
theorem op_bin (o : Operator) : ∃ r, OpR X (binaryOp o) r ∧ Op2 X.K a (binF o) r := by
  cases o
  case Add => exact op_add'
  case Sub => exact ⟨_, op_sub'⟩
  case Mult => exact op_mul'
  case Mod => exact ⟨_, op_mod'⟩
  case FloorDiv => exact ⟨_, op_fdiv'⟩
  case Pow => exact ⟨_, op_pow'⟩
  case LShift => exact ⟨_, op_shl'⟩
  case RShift => exact ⟨_, op_shr'⟩
  case BitAnd => exact ⟨_, op_and'⟩
  case BitXor => exact ⟨_, op_xor'⟩
  all_goals exact ⟨fun _ _ _ _ => False, fun _ _ _ _ _ _ _ _ _ _ _ _ z => z.elim, fun _ _ _ _ _ _ _ _ _ _ _ _ _ z => z.elim⟩
end
end En
end

section
set_option maxRecDepth 100000
set_option maxHeartbeats 2000000
/-! EE: comparisons, in, truth. -/
namespace En
open PySem PySem.Spec PyProof.Rows L2

def eqB (d e : D) (η : Hv) (k : Bool → Bool) : R D := match py η d, py η e with
  | some x, some y => if SeqAt.shaped x && SeqAt.shaped y then okB (k (PyData.eqv x y)) η else .bad
  | _, _ => .bad
def eqD (d e : D) (η : Hv) : R D := eqB d e η id
def neD (d e : D) (η : Hv) : R D := eqB d e η not
def ordD (p : Int → Int → Bool) (d e : D) (η : Hv) : R D := match d, e with
  | .int i, .int j => okB (p i j) η
  | _, _ => .bad
def isN : D → Bool
  | .non => true
  | _ => false
def isD (k : Bool → Bool) (d e : D) (η : Hv) : R D := match e with
  | .non => okB (k (isN d)) η
  | _ => .bad
def inB (k : Bool → Bool) (d e : D) (η : Hv) : R D := match d, e with
  | .str x, .str y => okB (k (!(Builtin.Str.occurrences y x 0 y.length 1).isEmpty)) η
  | d, e => match py η d, py η e with
    | some x, some (.list ys) => if SeqAt.shaped x && SeqAt.shaped (.list ys) then okB (k (ys.any fun z => PyData.eqv z x)) η else .bad
    | some x, some (.tuple ys) => if SeqAt.shaped x && SeqAt.shaped (.tuple ys) then okB (k (ys.any fun z => PyData.eqv z x)) η else .bad
    | _, _ => .bad
def cmpF : CmpOp → D → D → Hv → R D
  | .Eq => eqD
  | .NotEq => neD
  | .Lt => ordD fun i j => decide (i < j)
  | .LtE => ordD fun i j => decide (i ≤ j)
  | .Gt => ordD fun i j => decide (j < i)
  | .GtE => ordD fun i j => decide (j ≤ i)
  | .Is => isD id
  | .IsNot => isD not
  | .In => inB id
  | .NotIn => inB not

section
variable {X : Cx} {a : Ad}
theorem op_ordD {o : CmpOp} {p : Int → Int → Bool} (ho : OpR X (compareOp o) (rI0 fun i j => .bl (p i j))) : ∃ r, OpR X (compareOp o) r ∧ Op2 X.K a (ordD p) r := by
  refine ⟨_, ho, fun W σ ρ η H d e v u Q rel pd pe h => ?_⟩
  cases d <;> cases e <;> first | exact h.elim | skip
  exact ⟨_, _, pd.intv, pe.intv, Out.okv rel h (.bl _)⟩
theorem eqB_of {K : PySem.W.Frag} {k : Bool → Bool} {W : L2.St → XK} {σ : L2.St} {ρ : List Addr} {η : Hv} {H : Hp} {d e : D} {v u : V} {Q : VK} (rel : Rel K a.C ρ η H) (pd : Rep K ρ H d v) (pe : Rep K ρ H e u) (h : Out K a W σ ρ H (eqB d e η k) Q) :
    ∃ x y, Dp K H v x ∧ Dp K H u y ∧ SeqAt.shaped x = true ∧ SeqAt.shaped y = true ∧ Q (.bl (k (PyData.eqv x y))) H := by
  unfold eqB at h
  cases q1 : py η d with
  | none => rw [q1] at h; exact h.elim
  | some x =>
    cases q2 : py η e with
    | none => rw [q1, q2] at h; exact h.elim
    | some y =>
      rw [q1, q2] at h
      obtain ⟨c, h⟩ := if_bad h
      obtain ⟨c1, c2⟩ := Bool.and_eq_true_iff.mp c
      exact ⟨x, y, py_of rel pd q1, py_of rel pe q2, c1, c2, Out.okv rel h (.bl _)⟩
def rInT (K : PySem.W.Frag) (k : Bool → Bool) : R2 := fun x y H Q => ∃ d ds, Dp K H x d ∧ Dp K H y (.tuple ds) ∧ SeqAt.shaped d = true ∧ SeqAt.shaped (.tuple ds) = true ∧ Q (.bl (k (ds.any fun z => PyData.eqv z d))) H
theorem op_inT (hu : X.A.units + 65 < cLine) : OpR X (compareOp .In) (rInT X.K id) := by
  rintro pins s σ H x y v u Q I rx ry ⟨d, ds, hd, he, sd, se, q⟩
  have ⟨as, r1⟩ := Dp.reads I d x v hd rx
  have ⟨bs, r2⟩ := Dp.reads I (.tuple ds) y u he ry
  exact SeqAt.in_tuple_reads r2 r1 (SeqAt.canLay_of_shaped (d := .tuple ds) se) (SeqAt.canLay_of_shaped sd) (room_in_shaped sd hu) ⟨.bl _, H, I, rfl, q⟩
theorem op_notInT (hu : X.A.units + 65 < cLine) : OpR X (compareOp .NotIn) (rInT X.K not) := by
  rintro pins s σ H x y v u Q I rx ry ⟨d, ds, hd, he, sd, se, q⟩
  have ⟨as, r1⟩ := Dp.reads I d x v hd rx
  have ⟨bs, r2⟩ := Dp.reads I (.tuple ds) y u he ry
  exact SeqAt.notIn_tuple_reads r2 r1 (SeqAt.canLay_of_shaped (d := .tuple ds) se) (SeqAt.canLay_of_shaped sd) (room_in_shaped sd hu) ⟨.bl _, H, I, rfl, q⟩
theorem inB_of {K : PySem.W.Frag} {k : Bool → Bool} {W : L2.St → XK} {σ : L2.St} {ρ : List Addr} {η : Hv} {H : Hp} {d e : D} {v u : V} {Q : VK} (rel : Rel K a.C ρ η H) (pd : Rep K ρ H d v) (pe : Rep K ρ H e u) (h : Out K a W σ ρ H (inB k d e η) Q) :
    (∃ x y, v = .str x ∧ u = .str y ∧ Q (.bl (k (!(Builtin.Str.occurrences y x 0 y.length 1).isEmpty))) H) ∨
    (∃ x ys, Dp K H v x ∧ Dp K H u (.list ys) ∧ SeqAt.shaped x = true ∧ SeqAt.shaped (.list ys) = true ∧ Q (.bl (k (ys.any fun z => PyData.eqv z x))) H) ∨
    (∃ x ys, Dp K H v x ∧ Dp K H u (.tuple ys) ∧ SeqAt.shaped x = true ∧ SeqAt.shaped (.tuple ys) = true ∧ Q (.bl (k (ys.any fun z => PyData.eqv z x))) H) := by
  have rest : Out K a W σ ρ H (match py η d, py η e with
    | some x, some (.list ys) => if SeqAt.shaped x && SeqAt.shaped (.list ys) then okB (k (ys.any fun z => PyData.eqv z x)) η else .bad
    | some x, some (.tuple ys) => if SeqAt.shaped x && SeqAt.shaped (.tuple ys) then okB (k (ys.any fun z => PyData.eqv z x)) η else .bad
    | _, _ => .bad) Q → (∃ x ys, Dp K H v x ∧ Dp K H u (.list ys) ∧ SeqAt.shaped x = true ∧ SeqAt.shaped (.list ys) = true ∧ Q (.bl (k (ys.any fun z => PyData.eqv z x))) H) ∨
    (∃ x ys, Dp K H v x ∧ Dp K H u (.tuple ys) ∧ SeqAt.shaped x = true ∧ SeqAt.shaped (.tuple ys) = true ∧ Q (.bl (k (ys.any fun z => PyData.eqv z x))) H) := fun h => by
    split at h
    · rename_i x ys q1 q2
      obtain ⟨c, h⟩ := if_bad h
      obtain ⟨c1, c2⟩ := Bool.and_eq_true_iff.mp c
      exact .inl ⟨x, ys, py_of rel pd q1, py_of rel pe q2, c1, c2, Out.okv rel h (.bl _)⟩
    · rename_i x ys q1 q2
      obtain ⟨c, h⟩ := if_bad h
      obtain ⟨c1, c2⟩ := Bool.and_eq_true_iff.mp c
      exact .inr ⟨x, ys, py_of rel pd q1, py_of rel pe q2, c1, c2, Out.okv rel h (.bl _)⟩
    · exact h.elim
  cases d with
  | str x =>
    cases e with
    | str y => exact .inl ⟨x, y, pd.strv, pe.strv, Out.okv rel h (.bl _)⟩
    | _ => exact .inr (rest h)
  | _ => exact .inr (rest h)
theorem isD_of {K : PySem.W.Frag} {k : Bool → Bool} {W : L2.St → XK} {σ : L2.St} {ρ : List Addr} {η : Hv} {H : Hp} {d e : D} {v u : V} {Q : VK} (rel : Rel K a.C ρ η H) (pd : Rep K ρ H d v) (pe : Rep K ρ H e u) (h : Out K a W σ ρ H (isD k d e η) Q) :
    u = .non ∧ Q (.bl (k (decide (v = .non)))) H := by
  cases e <;> first | exact h.elim | skip
  refine ⟨pe.nonv, ?_⟩
  have e1 : decide (v = .non) = isN d := by cases pd <;> rfl
  rw [e1]
  exact Out.okv rel h (.bl _)
theorem op_cmp (o : CmpOp) (hu : X.A.units + 65 < cLine) : ∃ r, OpR X (compareOp o) r ∧ Op2 X.K a (cmpF o) r := by
  cases o
  case Eq => exact ⟨_, op_eqD (by omega), fun W σ ρ η H d e v u Q rel pd pe h => eqB_of rel pd pe h⟩
  case NotEq => exact ⟨_, op_neD (by omega), fun W σ ρ η H d e v u Q rel pd pe h => eqB_of rel pd pe h⟩
  case Lt => exact op_ordD op_lt
  case LtE => exact op_ordD op_le
  case Gt => exact op_ordD op_gt
  case GtE => exact op_ordD op_ge
  case Is => exact ⟨_, op_isN, fun W σ ρ η H d e v u Q rel pd pe h => isD_of rel pd pe h⟩
  case IsNot => exact ⟨_, op_notN, fun W σ ρ η H d e v u Q rel pd pe h => isD_of rel pd pe h⟩
  case In => exact ⟨_, OpR.or op_in_str (OpR.or (op_inD hu) (op_inT hu)), fun W σ ρ η H d e v u Q rel pd pe h => inB_of rel pd pe h⟩
  case NotIn => exact ⟨_, OpR.or L2.op_notin_str (OpR.or (op_notInD hu) (op_notInT hu)), fun W σ ρ η H d e v u Q rel pd pe h => inB_of rel pd pe h⟩
/-! ### truth -/
def truB (η : Hv) : D → Option Bool
  | .non => some false
  | .bl b => some b
  | .int i => some (i != 0)
  | .str s => if s.length ≤ sizeLine then some ((s.length : Int) != 0) else none
  | .tup xs => some (!xs.isEmpty)
  | .lst xs => some (!xs.isEmpty)
  | .scr xs => some (!xs.isEmpty)
  | .ref i => match η[i]? with
    | some (.lst xs) => some (!xs.isEmpty)
    | some (.dct kvs) => some (!kvs.isEmpty)
    | _ => none
  | .exc _ => none
theorem Reps.empty {K : PySem.W.Frag} {ρ : List Addr} {H : Hp} {ds : List D} {vs : List V} (r : Reps K ρ H ds vs) : ds.isEmpty = vs.isEmpty := by cases r <;> rfl
theorem tru_of {K : PySem.W.Frag} {ρ : List Addr} {η : Hv} {H : Hp} {d : D} {v : V} {b : Bool} (rel : Rel K a.C ρ η H) (p : Rep K ρ H d v) (h : truB η d = some b) : TruV K v H b := by
  cases d with
  | non => cases h; cases p; rfl
  | bl c => cases h; cases p; rfl
  | int i => cases h; cases p; rfl
  | str s =>
    cases p
    have h1 : (if s.length ≤ sizeLine then some ((s.length : Int) != 0) else none) = some b := h
    split at h1
    · cases h1; exact ⟨‹_›, rfl⟩
    · cases h1
  | tup xs =>
    cases h
    obtain ⟨q, vs, rfl, h1, r1⟩ := p.sqT
    exact .inr (.inl ⟨vs, h1, by rw [r1.empty]⟩)
  | lst xs =>
    cases h
    obtain ⟨q, vs, rfl, h1, r1⟩ := p.sqL
    exact .inl ⟨vs, .inl (.inl h1), by rw [r1.empty]⟩
  | scr xs =>
    cases h
    obtain ⟨q, vs, rfl, h1, r1⟩ := p.sqS
    exact .inl ⟨vs, h1, by rw [r1.empty]⟩
  | ref i =>
    have h1 : (match η[i]? with
      | some (.lst xs) => some (!xs.isEmpty)
      | some (.dct kvs) => some (!kvs.isEmpty)
      | _ => none) = some b := h
    split at h1
    · rename_i xs q
      cases h1
      obtain ⟨p1, vs, rfl, _, h2, r1⟩ := rel.lst q p
      exact .inl ⟨vs, .inl (.inl h2), by rw [r1.empty]⟩
    · rename_i kvs q
      cases h1
      obtain ⟨p1, kv, rfl, _, h2, e1, r1⟩ := rel.dct q p
      refine .inr (.inr ⟨kv, h2, ?_⟩)
      have := congrArg List.isEmpty e1
      simp only [List.isEmpty_map] at this
      rw [this]
    · cases h1
  | exc c => cases h
end
end En
end

section
set_option maxRecDepth 100000
set_option maxHeartbeats 2000000
/-! EF: subscripts, slices, built-in functions by values. -/
namespace En
open PySem PySem.Spec PyProof.Rows L2

/-! ### items -/
def keyD : D → Option Key
  | .int i => some (.inl i)
  | .str s => some (.inr s)
  | _ => none
def getK (kvs : List (Key × D)) (k : Key) : Option D := (kvs.find? fun kv => decide (kv.1 = k)).map (·.2)
def putKD (kvs : List (Key × D)) (k : Key) (d : D) : List (Key × D) := if (kvs.any fun kv => decide (kv.1 = k)) = true then kvs.map (fun kv => if kv.1 = k then (kv.1, d) else kv) else kvs ++ [(k, d)]
def sixD (d e : D) (η : Hv) : R D := match d, e with
  | .str s, .int i => if s.length ≤ sizeLine then (match atI s.cps.toList i with
    | some c => .ok (.str ⟨#[c]⟩) η
    | none => .bad) else .bad
  | d, .int i => match seqOf η d with
    | some xs => (match atI xs i with
      | some x => .ok x η
      | none => .bad)
    | none => .bad
  | _, _ => .bad
def cutD (xs : List D) (lo hi : Option Int) : List D := (xs.drop (HT.sIx xs.length 0 lo)).take (HT.sIx xs.length xs.length hi - HT.sIx xs.length 0 lo)
def slcD (d : D) (lo hi : Option Int) (η : Hv) : R D := match d with
  | .str z => if z.length ≤ sizeLine then .ok (.str (cutS z lo hi)) η else .bad
  | .tup xs => .ok (.tup (cutD xs lo hi)) η
  | d => match lstOf η d with
    | some xs => newL (cutD xs lo hi) η
    | none => .bad
section
variable {K : PySem.W.Frag} {ρ : List Addr} {H : Hp} {a : Ad}
theorem Reps.atI {ds : List D} {vs : List V} {i : Int} {d : D} (r : Reps K ρ H ds vs) (h : atI ds i = some d) : ∃ v, atI vs i = some v ∧ Rep K ρ H d v := by
  unfold L2.atI at h ⊢
  rw [← r.length]
  cases q : ixN ds.length i with
  | none => rw [q] at h; cases h
  | some j =>
    rw [q] at h
    exact r.get (i := j) h
theorem Reps.cut {ds : List D} {vs : List V} (lo hi : Option Int) (r : Reps K ρ H ds vs) : Reps K ρ H (cutD ds lo hi) (cutV vs lo hi) := by
  unfold cutD cutV
  rw [← r.length]
  exact (r.drop _).take _
theorem valV_of {κ : Type} [DecidableEq κ] : ∀ {kvs : List (κ × D)} {kv : List (κ × V)} (k : κ), kvs.map (·.1) = kv.map (·.1) → Reps K ρ H (kvs.map (·.2)) (kv.map (·.2)) →
    (∀ d, (kvs.find? fun x => decide (x.1 = k)).map (·.2) = some d → ∃ v, valV kv k = some v ∧ Rep K ρ H d v) ∧ ((kvs.find? fun x => decide (x.1 = k)).map (·.2) = none → valV kv k = none)
  | [], [], k, _, _ => ⟨fun d h => by simp at h, fun _ => rfl⟩
  | [], _ :: _, k, e, _ => by simp at e
  | _ :: _, [], k, e, _ => by simp at e
  | (k1, d1) :: r, (k2, v1) :: r2, k, e, rp => by
    rw [List.map_cons, List.map_cons] at e
    obtain ⟨e1, e2⟩ := List.cons.inj e
    have e1 : k1 = k2 := e1
    subst e1
    cases rp with
    | cons h1 h2 =>
      have ih := valV_of k e2 h2
      unfold valV
      by_cases q : k1 = k
      · subst q
        simp only [List.find?_cons, decide_true, Option.map_some]
        exact ⟨fun d h => by cases h; exact ⟨v1, rfl, h1⟩, fun h => by cases h⟩
      · simp only [List.find?_cons, q, decide_false]
        exact ih
end
section
variable {X : Cx} {a : Ad}
theorem ix_seqs : ∃ r, IxR X r ∧ Op2 X.K a sixD r := by
  refine ⟨_, IxR.or ix_str (IxR.or ix_list ix_tup), fun W σ ρ η H d e v u Q rel pd pe h => ?_⟩
  have seqs : ∀ i, e = .int i → Out X.K a W σ ρ H (match seqOf η d with
    | some xs => (match atI xs i with
      | some x => .ok x η
      | none => .bad)
    | none => .bad) Q → rIxL X.K v u H Q ∨ rIxT X.K v u H Q := fun i e1 h9 => by
    subst e1
    cases q1 : seqOf η d with
    | none => rw [q1] at h9; exact h9.elim
    | some xs =>
      simp only [q1] at h9
      cases q2 : atI xs i with
      | none => rw [q2] at h9; exact h9.elim
      | some x =>
        rw [q2] at h9
        obtain ⟨p, vs, rfl, h1, r1⟩ := rel.seqOf q1 pd
        obtain ⟨y, h2, h3⟩ := r1.atI q2
        rcases h1 with h1 | h1
        · exact .inl ⟨p, vs, i, y, rfl, pe.intv, h1, h2, Out.okv rel h9 h3⟩
        · exact .inr ⟨p, vs, i, y, rfl, pe.intv, h1, h2, Out.okv rel h9 h3⟩
  cases e with
  | int i =>
    cases d with
    | str s =>
      obtain ⟨c, h⟩ := if_bad h
      cases q2 : atI s.cps.toList i with
      | none => rw [q2] at h; exact h.elim
      | some x =>
        rw [q2] at h
        exact .inl ⟨s, i, x, pd.strv, pe.intv, c, q2, Out.okv rel h (.str _)⟩
    | _ => exact .inr (seqs i rfl h)
  | _ => cases d <;> exact h.elim
/-- x[lo:hi] -/
theorem slc_of : ∃ r : V → Option Int → Option Int → Hp → VK → Prop, SlR X r ∧ ∀ (W : L2.St → XK) (σ : L2.St) (ρ : List Addr) (η : Hv) (H : Hp) (d : D) (v : V) (lo hi : Option Int) (Q : VK), Rel X.K a.C ρ η H → Rep X.K ρ H d v →
    Out X.K a W σ ρ H (slcD d lo hi η) Q → r v lo hi H Q := by
  refine ⟨_, SlR.or sl_str (SlR.or sl_tupA sl_list), fun W σ ρ η H d v lo hi Q rel pd h => ?_⟩
  have lists : Out X.K a W σ ρ H (match lstOf η d with
    | some xs => newL (cutD xs lo hi) η
    | none => .bad) Q → rSlL X.K v lo hi H Q := fun h9 => by
    cases q1 : lstOf η d with
    | none => rw [q1] at h9; exact h9.elim
    | some xs =>
      rw [q1] at h9
      obtain ⟨p, vs, rfl, h1, r1⟩ := rel.lstOf q1 pd
      exact ⟨p, vs, rfl, .inl (.inl h1), fun z nz => Out.newl rel h9 (r1.cut lo hi) z nz⟩
  cases d with
  | tup xs =>
    obtain ⟨p, vs, rfl, h1, r1⟩ := pd.sqT
    refine .inr (.inl ⟨p, vs, rfl, h1, fun ⟨z1, z2⟩ => ?_, fun _ z nz => Out.newt rel h (r1.cut lo hi) z nz⟩)
    have e : cutD xs lo hi = xs := by
      unfold cutD
      rw [r1.length, z1, z2, List.drop_zero, Nat.sub_zero, ← r1.length]
      exact List.take_length
    rw [show slcD (.tup xs) lo hi η = .ok (.tup (cutD xs lo hi)) η from rfl, e] at h
    exact Out.okv rel h pd
  | str s =>
    obtain ⟨c, h⟩ := if_bad h
    exact .inl ⟨s, pd.strv, c, Out.okv rel h (.str _)⟩
  | _ => exact .inr (.inr (lists h))

/-! ### built-ins -/
end
/-- a built-in by values: what it asks of its arguments -/
def OpN (K : PySem.W.Frag) (a : Ad) (f : List D → Hv → R D) (r : List V → Hp → VK → Prop) : Prop := ∀ (W : L2.St → XK) (σ : L2.St) (ρ : List Addr) (η : Hv) (H : Hp) (ds : List D) (vs : List V) (Q : VK), Rel K a.C ρ η H → Reps K ρ H ds vs → Out K a W σ ρ H (f ds η) Q → r vs H Q
theorem Reps.one {K : PySem.W.Frag} {ρ : List Addr} {H : Hp} {d : D} {vs : List V} (r : Reps K ρ H [d] vs) : ∃ v, vs = [v] ∧ Rep K ρ H d v := by
  cases r with
  | cons h t => cases t; exact ⟨_, rfl, h⟩
theorem Reps.two {K : PySem.W.Frag} {ρ : List Addr} {H : Hp} {d e : D} {vs : List V} (r : Reps K ρ H [d, e] vs) : ∃ v u, vs = [v, u] ∧ Rep K ρ H d v ∧ Rep K ρ H e u := by
  cases r with
  | cons h t =>
    obtain ⟨u, rfl, h2⟩ := t.one
    exact ⟨_, u, rfl, h, h2⟩
def intsOf : List D → Option (List Int)
  | [] => some []
  | .int i :: r => (intsOf r).map (i :: ·)
  | _ :: _ => none
theorem intsOf_eq : ∀ {ds : List D} {ns : List Int}, intsOf ds = some ns → ds = ns.map D.int
  | [], ns, h => by cases h; rfl
  | .int i :: r, ns, h => by
    unfold intsOf at h
    cases q : intsOf r with
    | none => rw [q] at h; cases h
    | some ms => rw [q] at h; cases h; rw [intsOf_eq q]; rfl
  | .non :: _, _, h => by cases h
  | .bl _ :: _, _, h => by cases h
  | .str _ :: _, _, h => by cases h
  | .tup _ :: _, _, h => by cases h
  | .lst _ :: _, _, h => by cases h
  | .scr _ :: _, _, h => by cases h
  | .ref _ :: _, _, h => by cases h
  | .exc _ :: _, _, h => by cases h
theorem intsOf_map : ∀ ns : List Int, intsOf (ns.map D.int) = some ns
  | [] => rfl
  | i :: r => by show (intsOf (r.map D.int)).map (i :: ·) = _; rw [intsOf_map r]; rfl
theorem Reps.intsV {K : PySem.W.Frag} {ρ : List Addr} {H : Hp} : ∀ {ns : List Int} {vs : List V}, Reps K ρ H (ns.map D.int) vs → vs = ns.map V.int
  | [], _, .nil => rfl
  | i :: r, _, .cons h t => by rw [h.intv, Reps.intsV t]; rfl
def boolsOf : List D → Option (List Bool)
  | [] => some []
  | .bl i :: r => (boolsOf r).map (i :: ·)
  | _ :: _ => none
theorem boolsOf_eq : ∀ {ds : List D} {ns : List Bool}, boolsOf ds = some ns → ds = ns.map D.bl
  | [], ns, h => by cases h; rfl
  | .bl i :: r, ns, h => by
    unfold boolsOf at h
    cases q : boolsOf r with
    | none => rw [q] at h; cases h
    | some ms => rw [q] at h; cases h; rw [boolsOf_eq q]; rfl
  | .non :: _, _, h => by cases h
  | .int _ :: _, _, h => by cases h
  | .str _ :: _, _, h => by cases h
  | .tup _ :: _, _, h => by cases h
  | .lst _ :: _, _, h => by cases h
  | .scr _ :: _, _, h => by cases h
  | .ref _ :: _, _, h => by cases h
  | .exc _ :: _, _, h => by cases h
theorem boolsOf_map : ∀ ns : List Bool, boolsOf (ns.map D.bl) = some ns
  | [] => rfl
  | i :: r => by show (boolsOf (r.map D.bl)).map (i :: ·) = _; rw [boolsOf_map r]; rfl
theorem Reps.boolsV {K : PySem.W.Frag} {ρ : List Addr} {H : Hp} : ∀ {ns : List Bool} {vs : List V}, Reps K ρ H (ns.map D.bl) vs → vs = ns.map V.bl
  | [], _, .nil => rfl
  | i :: r, _, .cons h t => by rw [h.blv, Reps.boolsV t]; rfl

def dctOf (η : Hv) : D → Option (List (Key × D))
  | .ref i => match η[i]? with
    | some (.dct kvs) => some kvs
    | _ => none
  | _ => none
def lenOf (η : Hv) (d : D) : Option Nat := match seqOf η d with
  | some xs => some xs.length
  | none => (dctOf η d).map List.length
def lenF (ds : List D) (η : Hv) : R D := match ds with
  | [.str s] => if s.length ≤ sizeLine then okI s.length η else .bad
  | [d] => match lenOf η d with
    | some n => okI n η
    | none => .bad
  | _ => .bad
def listF (ds : List D) (η : Hv) : R D := match ds with
  | [d] => match seqOf η d with
    | some xs => newL xs η
    | none => .bad
  | _ => .bad
def tupleF (ds : List D) (η : Hv) : R D := match ds with
  | [d] => match seqOf η d with
    | some xs => .ok (.tup xs) η
    | none => .bad
  | _ => .bad
def intF (ds : List D) (η : Hv) : R D := match ds with
  | [.int i] => okI i η
  | [.bl b] => okI (if b then 1 else 0) η
  | [.str s] => match PySem.intText? s with
    | some n => if s.length ≤ 640 then okI n η else .bad
    | none => .bad
  | _ => .bad
def sumF (ds : List D) (η : Hv) : R D := match ds with
  | [d] => match (lstOf η d).bind intsOf with
    | some ns => okI ns.sum η
    | none => .bad
  | _ => .bad
def maxF (ds : List D) (η : Hv) : R D := match ds with
  | [.int i, .int j] => okI (if j > i then j else i) η
  | [d] => match ((lstOf η d).bind intsOf).bind List.max? with
    | some m => okI m η
    | none => .bad
  | _ => .bad
def minF (ds : List D) (η : Hv) : R D := match ds with
  | [.int i, .int j] => okI (if j < i then j else i) η
  | [d] => match ((lstOf η d).bind intsOf).bind List.min? with
    | some m => okI m η
    | none => .bad
  | _ => .bad
def allF (ds : List D) (η : Hv) : R D := match ds with
  | [d] => match (lstOf η d).bind boolsOf with
    | some bs => okB (bs.all id) η
    | none => .bad
  | _ => .bad
def anyF (ds : List D) (η : Hv) : R D := match ds with
  | [d] => match (lstOf η d).bind boolsOf with
    | some bs => okB (bs.any id) η
    | none => .bad
  | _ => .bad
section
variable {X : Cx} {a : Ad}
theorem Rel.dctOf {K : PySem.W.Frag} {ρ : List Addr} {η : Hv} {H : Hp} (r : Rel K a.C ρ η H) {d : D} {v : V} {kvs : List (Key × D)} (h : dctOf η d = some kvs) (p : Rep K ρ H d v) :
    ∃ i q kv, d = .ref i ∧ η[i]? = some (.dct kvs) ∧ ρ[i]? = some q ∧ v = .ref q ∧ H q = some (.dK kv) ∧ kvs.map (·.1) = kv.map (·.1) ∧ Reps K ρ H (kvs.map (·.2)) (kv.map (·.2)) := by
  cases d with
  | ref i =>
    have h1 : (match η[i]? with | some (.dct xs) => some xs | _ => none) = some kvs := h
    split at h1
    · rename_i ys q
      cases h1
      obtain ⟨p1, vs, e, e0, h2, h3, h4⟩ := r.dct q p
      exact ⟨i, p1, vs, rfl, q, e0, e, h2, h3, h4⟩
    · cases h1
  | _ => cases h
theorem seqOf_or {K : PySem.W.Frag} {ρ : List Addr} {η : Hv} {H : Hp} (r : Rel K a.C ρ η H) {d : D} {xs : List D} (h : En.seqOf η d = some xs) : d = .tup xs ∨ ∀ v, Rep K ρ H d v → ∃ q vs, v = V.ref q ∧ SqL K H q vs ∧ Reps K ρ H xs vs := by
  have other : En.lstOf η d = some xs → ∀ v, Rep K ρ H d v → ∃ q vs, v = V.ref q ∧ SqL K H q vs ∧ Reps K ρ H xs vs := fun h v p => by
    obtain ⟨q, vs, e, h1, h2⟩ := r.lstOf h p
    exact ⟨q, vs, e, .inl (.inl h1), h2⟩
  cases d with
  | tup ds => cases h; exact .inl rfl
  | scr ds => cases h; exact .inr fun v p => p.sqS
  | _ => exact .inr (other h)
theorem lenF_of : ∃ r, CallR X (.builtin "len") r ∧ OpN X.K a lenF r := by
  refine ⟨_, CallR.or L2.call_len call_lenD, fun W σ ρ η H ds vs Q rel pd h => ?_⟩
  match ds, pd with
  | [], _ => exact h.elim
  | _ :: _ :: _, _ => exact (by unfold lenF at h; split at h <;> first | exact h.elim | (rename_i q; cases q))
  | [d], pd =>
    obtain ⟨v, rfl, p⟩ := pd.one
    have seqs : Out X.K a W σ ρ H (match lenOf η d with
      | some n => okI n η
      | none => .bad) Q → (∃ x n, [v] = [x] ∧ LenV X.K x H n ∧ Q (.int n) H) ∨ (∃ a kvs, [v] = [V.ref a] ∧ H a = some (.dK kvs) ∧ Q (.int kvs.length) H) := fun h9 => by
      unfold lenOf at h9
      cases q : seqOf η d with
      | some xs =>
        simp only [q] at h9
        obtain ⟨y, vs, rfl, h1, r1⟩ := rel.seqOf q p
        refine .inl ⟨.ref y, xs.length, rfl, ?_, Out.okv rel h9 (.int _)⟩
        rcases h1 with h1 | h1
        · exact .inl ⟨vs, h1, r1.length⟩
        · exact .inr ⟨vs, h1, r1.length⟩
      | none =>
        cases q2 : dctOf η d with
        | none => simp only [q, q2] at h9; exact h9.elim
        | some kvs =>
          simp only [q, q2, Option.map_some] at h9
          obtain ⟨_, y, kv, _, _, _, rfl, h1, e, r1⟩ := rel.dctOf q2 p
          have e2 := congrArg List.length e
          simp only [List.length_map] at e2
          refine .inr ⟨y, kv, rfl, h1, ?_⟩
          rw [← e2]
          exact Out.okv rel h9 (.int _)
    cases d with
    | str s =>
      obtain ⟨c, h⟩ := if_bad h
      cases p
      exact .inl ⟨_, _, rfl, ⟨c, rfl⟩, Out.okv rel h (.int _)⟩
    | _ => exact seqs h
theorem listF_of : ∃ r, CallR X (.type "list") r ∧ OpN X.K a listF r := by
  refine ⟨_, call_list_of, fun W σ ρ η H ds vs Q rel pd h => ?_⟩
  match ds, pd with
  | [], _ => exact h.elim
  | _ :: _ :: _, _ => exact h.elim
  | [d], pd =>
    obtain ⟨v, rfl, p⟩ := pd.one
    unfold listF at h
    cases q : seqOf η d with
    | none => simp only [q] at h; exact h.elim
    | some xs =>
      simp only [q] at h
      obtain ⟨y, vs, rfl, h1, r1⟩ := rel.seqOf q p
      exact ⟨y, vs, rfl, h1, fun z nz => Out.newl rel h r1 z nz⟩
theorem tupleF_of : ∃ r, CallR X (.type "tuple") r ∧ OpN X.K a tupleF r := by
  refine ⟨_, call_tuple_of, fun W σ ρ η H ds vs Q rel pd h => ?_⟩
  match ds, pd with
  | [], _ => exact h.elim
  | _ :: _ :: _, _ => exact h.elim
  | [d], pd =>
    obtain ⟨v, rfl, p⟩ := pd.one
    unfold tupleF at h
    cases q : seqOf η d with
    | none => simp only [q] at h; exact h.elim
    | some xs =>
      simp only [q] at h
      rcases seqOf_or rel q with e | e
      · subst e
        obtain ⟨y, vs, rfl, h1, r1⟩ := p.sqT
        exact ⟨y, vs, rfl, .inr ⟨h1, Out.okv rel h p⟩⟩
      · obtain ⟨y, vs, rfl, h1, r1⟩ := e v p
        exact ⟨y, vs, rfl, .inl ⟨h1, fun z nz => Out.newt rel h r1 z nz⟩⟩
theorem intF_of : ∃ r, CallR X (.type "int") r ∧ OpN X.K a intF r := by
  refine ⟨_, CallR.or call_int1 call_int_str, fun W σ ρ η H ds vs Q rel pd h => ?_⟩
  unfold intF at h
  split at h
  · obtain ⟨v, rfl, p⟩ := pd.one
    exact .inl (.inl ⟨_, by rw [p.intv], Out.okv rel h (.int _)⟩)
  · obtain ⟨v, rfl, p⟩ := pd.one
    exact .inl (.inr ⟨_, by rw [p.blv], Out.okv rel h (.int _)⟩)
  · obtain ⟨v, rfl, p⟩ := pd.one
    split at h
    · rename_i n q
      obtain ⟨c, h⟩ := if_bad h
      exact .inr ⟨_, n, by rw [p.strv], q, c, Out.okv rel h (.int _)⟩
    · exact h.elim
  · exact h.elim
/-- a list of ints, of truths -/
theorem Rel.intsL {K : PySem.W.Frag} {ρ : List Addr} {η : Hv} {H : Hp} (r : Rel K a.C ρ η H) {d : D} {v : V} {ns : List Int} (h : (En.lstOf η d).bind intsOf = some ns) (p : Rep K ρ H d v) : ∃ q, v = .ref q ∧ SqL K H q (ns.map V.int) := by
  cases q : En.lstOf η d with
  | none => rw [q] at h; cases h
  | some xs =>
    rw [q] at h
    obtain ⟨y, vs, rfl, h1, h2⟩ := r.lstOf q p
    rw [intsOf_eq (show intsOf xs = some ns from h)] at h2
    rw [h2.intsV] at h1
    exact ⟨y, rfl, .inl (.inl h1)⟩
theorem Rel.boolsL {K : PySem.W.Frag} {ρ : List Addr} {η : Hv} {H : Hp} (r : Rel K a.C ρ η H) {d : D} {v : V} {ns : List Bool} (h : (En.lstOf η d).bind boolsOf = some ns) (p : Rep K ρ H d v) : ∃ q, v = .ref q ∧ SqL K H q (ns.map V.bl) := by
  cases q : En.lstOf η d with
  | none => rw [q] at h; cases h
  | some xs =>
    rw [q] at h
    obtain ⟨y, vs, rfl, h1, h2⟩ := r.lstOf q p
    rw [boolsOf_eq (show boolsOf xs = some ns from h)] at h2
    rw [h2.boolsV] at h1
    exact ⟨y, rfl, .inl (.inl h1)⟩
theorem sumF_of (hc : X.calm = true) : ∃ r, CallR X (.builtin "sum") r ∧ OpN X.K a sumF r := by
  refine ⟨_, cr_sum hc, fun W σ ρ η H ds vs Q rel pd h => ?_⟩
  unfold sumF at h
  split at h
  · obtain ⟨v, rfl, p⟩ := pd.one
    split at h
    · rename_i ns q
      obtain ⟨y, rfl, h1⟩ := rel.intsL q p
      exact ⟨y, ns, rfl, h1, Out.okv rel h (.int _)⟩
    · exact h.elim
  · exact h.elim
theorem allF_of (hc : X.calm = true) : ∃ r, CallR X (.builtin "all") r ∧ OpN X.K a allF r := by
  refine ⟨_, cr_all hc, fun W σ ρ η H ds vs Q rel pd h => ?_⟩
  unfold allF at h
  split at h
  · obtain ⟨v, rfl, p⟩ := pd.one
    split at h
    · rename_i ns q
      obtain ⟨y, rfl, h1⟩ := rel.boolsL q p
      exact ⟨y, ns, rfl, h1, Out.okv rel h (.bl _)⟩
    · exact h.elim
  · exact h.elim
theorem anyF_of (hc : X.calm = true) : ∃ r, CallR X (.builtin "any") r ∧ OpN X.K a anyF r := by
  refine ⟨_, cr_any hc, fun W σ ρ η H ds vs Q rel pd h => ?_⟩
  unfold anyF at h
  split at h
  · obtain ⟨v, rfl, p⟩ := pd.one
    split at h
    · rename_i ns q
      obtain ⟨y, rfl, h1⟩ := rel.boolsL q p
      exact ⟨y, ns, rfl, h1, Out.okv rel h (.bl _)⟩
    · exact h.elim
  · exact h.elim
theorem ne_len {ns : List Int} {m : Int} (h : m ∈ ns) : 0 < ns.length := List.length_pos_of_mem h
theorem maxF_of (hc : X.calm = true) : ∃ r, CallR X (.builtin "max") r ∧ OpN X.K a maxF r := by
  refine ⟨_, CallR.or (call_max2 hc) (cr_max hc), fun W σ ρ η H ds vs Q rel pd h => ?_⟩
  unfold maxF at h
  split at h
  · obtain ⟨v, u, rfl, p1, p2⟩ := pd.two
    exact .inl ⟨_, _, by rw [p1.intv, p2.intv], Out.okv rel h (.int _)⟩
  · rename_i _ d
    obtain ⟨v, rfl, p⟩ := pd.one
    split at h
    · rename_i m q
      cases q2 : (En.lstOf η d).bind intsOf with
      | none => rw [q2] at q; cases q
      | some ns =>
        rw [q2] at q
        obtain ⟨y, rfl, h1⟩ := rel.intsL q2 p
        obtain ⟨q3, q4⟩ := List.max?_eq_some_iff.mp (show ns.max? = some m from q)
        refine .inr ⟨y, ns, rfl, h1, ne_len q3, fun n hn hx => ?_⟩
        obtain rfl : n = m := Int.le_antisymm (q4 n hn) (hx m q3)
        exact Out.okv rel h (.int _)
    · exact h.elim
  · exact h.elim
theorem minF_of (hc : X.calm = true) : ∃ r, CallR X (.builtin "min") r ∧ OpN X.K a minF r := by
  refine ⟨_, CallR.or (call_min2 hc) (cr_min hc), fun W σ ρ η H ds vs Q rel pd h => ?_⟩
  unfold minF at h
  split at h
  · obtain ⟨v, u, rfl, p1, p2⟩ := pd.two
    exact .inl ⟨_, _, by rw [p1.intv, p2.intv], Out.okv rel h (.int _)⟩
  · rename_i _ d
    obtain ⟨v, rfl, p⟩ := pd.one
    split at h
    · rename_i m q
      cases q2 : (En.lstOf η d).bind intsOf with
      | none => rw [q2] at q; cases q
      | some ns =>
        rw [q2] at q
        obtain ⟨y, rfl, h1⟩ := rel.intsL q2 p
        obtain ⟨q3, q4⟩ := List.min?_eq_some_iff.mp (show ns.min? = some m from q)
        refine .inr ⟨y, ns, rfl, h1, ne_len q3, fun n hn hx => ?_⟩
        obtain rfl : n = m := Int.le_antisymm (hx m q3) (q4 n hn)
        exact Out.okv rel h (.int _)
    · exact h.elim
  · exact h.elim
end
end En
end

section
set_option maxRecDepth 100000
set_option maxHeartbeats 2000000
/-! EG: the evaluator over the text's own trees. -/
namespace En
open PySem PySem.Spec PyProof.Rows L2

inductive Bi where
  | len | range | isinstance | tuple | list | dict | int | str | bool | max | min | sum | sorted | all | any | zip | enumerate | set | repr
  deriving DecidableEq
/-- what a name of a def stands for -/
inductive Sy where
  | slot (i : Nat) | cst (d : D) | kt (ds : List Str) | fn (f : Nat) | cls (c : Nat) | exc (c : Nat) | bi (b : Bi) | said (w : Nat → Option Str)
/-- a def's names: the slots' names, what each name is -/
structure Cc where
  lam : Bool := false
  N : List Str
  tab : List (Str × Sy)
  fz : Bool := true
  mu : List Nat := []
  rz : Bool := true
/-- whether new lists become values -/
def Cc.z (cx : Cc) (b : Bool) : Cc := { cx with fz := b }
/-- what the program's functions and classes do -/
structure Gst where
  F : Nat → List D → Hv → R D
  dfl : Nat → Nat → Option (List D)
  kwd : Nat → Nat → List Str → Option (List D → List D → List D)
  meth : Nat → Str → Option Nat
  init : Nat → Option Nat
  noat : Nat → Str → Bool
  B : Bi → List D → Hv → R D
  M : String → Str → D → List D → Hv → R D
  mok : String → Str → Bool
  isc : Nat → D → Hv → Option Bool
  W : Nat
  nx : Nat
  sub : Nat → Nat → Bool

/-- what repr shows here -/
def reprOk (x : PyData) : Bool := x.showable && !x.hasDict && decide (x.depth ≤ 50) && decide (x.shown.length ≤ sizeLine)
def reprF : List D → Hv → R D
  | [d], η => match py η d with
    | some x => if reprOk x then .ok (.str x.shown) η else .bad
    | none => .bad
  | _, _ => .bad
/-! ### small parts -/
/-- what a lambda tells, or the word of its refusal -/
def xSaid (m : Exp) (w : Nat → Option Str) : Exp := fun env η => match m env η with
  | .ok d η1 => reprF [d] η1
  | .exc c η1 => (match w c with
    | some z => .ok (.str z) η1
    | none => .bad)
  | .bad => .bad
abbrev Tst := Ev → Hv → R Bool
abbrev Lst := Ev → Hv → R (List D)
abbrev Tgt := D → Ev → Hv → R Ev
def xBad : Exp := fun _ _ => .bad
def xVar (i : Nat) : Exp := fun env η => match env[i]? with
  | some (some d) => .ok d η
  | _ => .bad
def xC (d : D) : Exp := fun _ η => .ok d η
def xTup (l : Lst) : Exp := fun env η => (l env η).bind fun ds η1 => if ds.length ≤ sizeLine then .ok (.tup ds) η1 else .bad
def xLst (l : Lst) : Exp := fun env η => (l env η).bind fun ds η1 => if ds.length ≤ sizeLine then newL ds η1 else .bad
def xNil : Lst := fun _ η => .ok [] η
def xCons (m : Exp) (l : Lst) : Lst := fun env η => (m env η).bind fun d η1 => (l env η1).bind fun ds η2 => .ok (d :: ds) η2
def xFn (f : List D → Hv → R D) (l : Lst) : Exp := fun env η => (l env η).bind f
def xTru (m : Exp) : Tst := fun env η => (m env η).bind fun d η1 => match truB η1 d with
  | some b => .ok b η1
  | none => .bad
def xNotT (m : Tst) : Tst := fun env η => (m env η).bind fun b η1 => .ok (!b) η1
def xAndT (m n : Tst) : Tst := fun env η => (m env η).bind fun b η1 => if b then n env η1 else .ok false η1
def xOrT (m n : Tst) : Tst := fun env η => (m env η).bind fun b η1 => if b then .ok true η1 else n env η1
def xIf (t : Tst) (m n : Exp) : Exp := fun env η => (t env η).bind fun b η1 => if b then m env η1 else n env η1
def xNot (m : Exp) : Exp := fun env η => (m env η).bind fun d η1 => match truB η1 d with
  | some b => .ok (.bl !b) η1
  | none => .bad
def xAnd (m n : Exp) : Exp := fun env η => (m env η).bind fun d η1 => match truB η1 d with
  | some b => if b then n env η1 else .ok d η1
  | none => .bad
def xOr (m n : Exp) : Exp := fun env η => (m env η).bind fun d η1 => match truB η1 d with
  | some b => if b then .ok d η1 else n env η1
  | none => .bad
/-- a test that is a comparison: its value a truth -/
def xBool (m : Exp) : Tst := fun env η => (m env η).bind fun d η1 => match d with
  | .bl b => .ok b η1
  | _ => .bad
/-- a op b op c -/
def xChain (f g : D → D → Hv → R D) (m n o : Exp) : Exp := fun env η => (m env η).bind fun x η1 => (n env η1).bind fun y η2 => (f x y η2).bind fun c η3 => match c with
  | .bl true => (o env η3).bind fun z η4 => g y z η4
  | .bl false => .ok (.bl false) η3
  | _ => .bad
def fldOf (G : Gst) (f : Str) (d : D) (η : Hv) : R D := match d with
  | .ref i => match η[i]? with
    | some (.ins c fs) => if G.noat c f then (match fs.lookup f with
      | some x => .ok x η
      | none => .bad) else .bad
    | _ => .bad
  | _ => .bad
/-- o[i]: an item, or a dict's value -/
def xIx (m n : Exp) : Exp := fun env η => (m env η).bind fun d η1 => (n env η1).bind fun e η2 => match dctOf η2 d with
  | some kvs => (match (keyD e).bind (getK kvs) with
    | some x => .ok x η2
    | none => .bad)
  | none => sixD d e η2
abbrev Opt := Ev → Hv → R (Option Int)
def xPart (m : Exp) : Opt := fun env η => (m env η).bind fun d η1 => match d with
  | .int i => .ok (some i) η1
  | _ => .bad
def xNoPart : Opt := fun _ η => .ok none η
def xSlc (m : Exp) (lo hi : Opt) : Exp := fun env η => (m env η).bind fun d η1 => (lo env η1).bind fun i η2 => (hi env η2).bind fun j η3 => slcD d i j η3
/-- f(..): own functions -/
def xCall (G : Gst) (f : Nat) (ds : List D) (l : Lst) : Exp := fun env η => (l env η).bind fun vs η1 => G.F f (vs ++ ds) η1
def xCallK (G : Gst) (f : Nat) (g : List D → List D → List D) (l k : Lst) : Exp := fun env η => (l env η).bind fun vs η1 => (k env η1).bind fun zs η2 => G.F f (g vs zs) η2
/-- o.m(..) of an own class's instance -/
def xMeth (G : Gst) (m : Str) (n : Nat) (o : Exp) (l : Lst) : Exp := fun env η => (o env η).bind fun d η1 => match d with
  | .ref i => match η1[i]? with
    | some (.ins c fs) => (match fs.lookup m, G.meth c m with
      | none, some f => (match G.dfl f (n + 1) with
        | some ds => (l env η1).bind fun vs η2 => G.F f (d :: (vs ++ ds)) η2
        | none => .bad)
      | _, _ => .bad)
    | _ => .bad
  | _ => .bad
def xMethK (G : Gst) (m : Str) (n : Nat) (ks : List Str) (o : Exp) (l k : Lst) : Exp := fun env η => (o env η).bind fun d η1 => match d with
  | .ref i => match η1[i]? with
    | some (.ins c fs) => (match fs.lookup m, G.meth c m with
      | none, some f => (match G.kwd f (n + 1) ks with
        | some g => (l env η1).bind fun vs η2 => (k env η2).bind fun zs η3 => G.F f (g (d :: vs) zs) η3
        | none => .bad)
      | _, _ => .bad)
    | _ => .bad
  | _ => .bad
/-- o.m(..) of a built-in type's method -/
def kindB (η : Hv) : D → Option String
  | .str _ => some "str"
  | .lst _ => some "list"
  | .ref i => match η[i]? with
    | some (.lst _) => some "list"
    | some (.dct _) => some "dict"
    | _ => none
  | _ => none
def xBm (G : Gst) (m : Str) (o : Exp) (l : Lst) : Exp := fun env η => (o env η).bind fun d η1 => match kindB η1 d with
  | some t => if G.mok t m then (l env η1).bind fun vs η2 => G.M t m d vs η2 else .bad
  | none => .bad
/-- C(..) -/
def xMake (G : Gst) (c f : Nat) (ds : List D) (l : Lst) : Exp := fun env η => (l env η).bind fun vs η1 => (G.F f (.ref η1.length :: (vs ++ ds)) (η1 ++ [.ins c []])).bind fun d η2 => match d with
  | .non => .ok (.ref η1.length) η2
  | _ => .bad
def xMakeK (G : Gst) (c f : Nat) (g : List D → List D → List D) (l k : Lst) : Exp := fun env η => (l env η).bind fun vs η1 => (k env η1).bind fun zs η2 => (G.F f (g (.ref η2.length :: vs) zs) (η2 ++ [.ins c []])).bind fun d η3 => match d with
  | .non => .ok (.ref η2.length) η3
  | _ => .bad
def xIsC (G : Gst) (c : Nat) (m : Exp) : Exp := fun env η => (m env η).bind fun d η1 => match G.isc c d η1 with
  | some b => .ok (.bl b) η1
  | none => .bad

/-! ### what is walked -/
inductive Itv where
  | rng (lo : Int) (n : Nat) | str (s : Str) | live (d : D) | enum (d : D) | zip (d e : D)
def nextI : Itv → Nat → Hv → Option (Option D)
  | .rng lo n, k, _ => some (if k < n then some (.int (lo + k)) else none)
  | .str s, k, _ => some ((s.cps[k]?).map fun c => .str ⟨#[c]⟩)
  | .live d, k, η => (seqOf η d).map fun xs => xs[k]?
  | .enum d, k, η => (seqOf η d).map fun xs => (xs[k]?).map fun x => .tup [.int k, x]
  | .zip d e, k, η => match seqOf η d, seqOf η e with
    | some xs, some ys => some (match xs[k]?, ys[k]? with
      | some x, some y => some (.tup [x, y])
      | _, _ => none)
    | _, _ => none
def sizeI : Itv → Hv → Nat
  | .rng _ n, _ => n
  | .str s, _ => s.cps.size
  | .live d, η => ((seqOf η d).map List.length).getD 0
  | .enum d, η => ((seqOf η d).map List.length).getD 0
  | .zip d _, η => ((seqOf η d).map List.length).getD 0
abbrev Iex := Ev → Hv → R Itv
def iBad : Iex := fun _ _ => .bad
def in62 (i : Int) : Bool := decide (-(2 ^ 62) ≤ i) && decide (i < 2 ^ 62)
def iRng1 (m : Exp) : Iex := fun env η => (m env η).bind fun d η1 => match d with
  | .int j => if in62 j then .ok (.rng 0 j.toNat) η1 else .bad
  | _ => .bad
def iRng2 (m n : Exp) : Iex := fun env η => (m env η).bind fun d η1 => (n env η1).bind fun e η2 => match d, e with
  | .int i, .int j => if in62 i && in62 j then .ok (.rng i (j - i).toNat) η2 else .bad
  | _, _ => .bad
def iVal (m : Exp) : Iex := fun env η => (m env η).bind fun d η1 => match d with
  | .str s => .ok (.str s) η1
  | d => match seqOf η1 d with
    | some _ => .ok (.live d) η1
    | none => .bad
/-- a list, a tuple -/
def kindL (η : Hv) (d : D) : Option Bool := match d with
  | .tup _ => some false
  | .scr _ => some true
  | d => (lstOf η d).map fun _ => true
def iEnum (m : Exp) : Iex := fun env η => (m env η).bind fun d η1 => match kindL η1 d with
  | some true => .ok (.enum d) η1
  | _ => .bad
def iZip (m n : Exp) : Iex := fun env η => (m env η).bind fun d η1 => (n env η1).bind fun e η2 => match kindL η2 d, kindL η2 e with
  | some x, some y => if x == y then .ok (.zip d e) η2 else .bad
  | _, _ => .bad

/-! ### targets -/
def gBad : Tgt := fun _ _ _ => .bad
def gSlot (i : Nat) : Tgt := fun d env η => .ok (env.set i (some d)) η
abbrev Tgts := List D → Ev → Hv → R Ev
def gsNil : Tgts := fun ds env η => match ds with
  | [] => .ok env η
  | _ => .bad
def gsCons (g : Tgt) (t : Tgts) : Tgts := fun ds env η => match ds with
  | d :: r => (g d env η).bind fun env1 η1 => t r env1 η1
  | [] => .bad
def gTupl (n : Nat) (t : Tgts) : Tgt := fun d env η => match d with
  | .tup xs => if xs.length = n then t xs env η else .bad
  | _ => .bad
/-- the first, the others: of a tuple, a list -/
def starOf (η : Hv) : D → Option (D × List D)
  | .tup (x :: r) => some (x, r)
  | .tup [] => none
  | d => match lstOf η d with
    | some (x :: r) => some (x, r)
    | _ => none
/-- a, *b = a tuple, a list -/
def gStar1 (g h : Tgt) : Tgt := fun d env η => match starOf η d with
  | some (x, r) => if r.length ≤ 16000 then (g x env (η ++ [.lst r])).bind fun env1 η1 => h (.ref η.length) env1 η1 else .bad
  | none => .bad
def putF (f : Str) (d : D) : List (Str × D) → List (Str × D)
  | [] => [(f, d)]
  | (k, e) :: r => if k = f then (k, d) :: r else (k, e) :: putF f d r
def noExc {α : Type} (r : R α) : R α := match r with
  | .exc _ _ => .bad
  | r => r
def gFld (G : Gst) (f : Str) (o : Exp) : Tgt := fun d env η => (noExc (o env η)).bind fun x η1 => match x with
  | .ref i => match η1[i]? with
    | some (.ins c fs) => if G.noat c f && decide (fs.length < 900) then .ok env (η1.set i (.ins c (putF f d fs))) else .bad
    | _ => .bad
  | _ => .bad
def setItemD (o i d : D) (η : Hv) : R Unit := match o with
  | .ref p => match η[p]?, i with
    | some (.lst xs), .int k => (match ixN xs.length k with
      | some j => .ok () (η.set p (.lst (xs.set j d)))
      | none => .bad)
    | some (.dct kvs), k => (match keyD k with
      | some k => if kvs.length < sizeLine then .ok () (η.set p (.dct (putKD kvs k d))) else .bad
      | none => .bad)
    | _, _ => .bad
  | _ => .bad
def gIx (m n : Exp) : Tgt := fun d env η => (noExc (m env η)).bind fun o η1 => (noExc (n env η1)).bind fun i η2 => (setItemD o i d η2).bind fun _ η3 => .ok env η3

/-! ### statements -/
def sBad : Stm := fun _ _ => .bad
def sPass : Stm := fun env η => .nxt env η
def sSeq (s t : Stm) : Stm := fun env η => match s env η with
  | .nxt env1 η1 => t env1 η1
  | r => r
def sExp (m : Exp) : Stm := fun env η => RS.ofE (m env η) env fun _ η1 => .nxt env η1
def sRet (m : Exp) : Stm := fun env η => RS.ofE (m env η) env fun d η1 => .ret d η1
def sRetN : Stm := fun _ η => .ret .non η
def sBrk : Stm := fun env η => .brk env η
def sCnt : Stm := fun env η => .cnt env η
def sIf (t : Tst) (s u : Stm) : Stm := fun env η => RS.ofB (t env η) env fun b η1 => if b then s env η1 else u env η1
def sAsg (m : Exp) (g : Tgt) : Stm := fun env η => RS.ofE (m env η) env fun d η1 => match g d env η1 with
  | .ok env1 η2 => .nxt env1 η2
  | _ => .bad
/-- a, b = x, y: no pair is made -/
def sPar (l : Lst) (g : Tgts) : Stm := fun env η => match l env η with
  | .ok ds η1 => (match g ds env η1 with
    | .ok env1 η2 => .nxt env1 η2
    | _ => .bad)
  | .exc c η1 => .exc c env η1
  | .bad => .bad
def sRaise (c : Nat) : Stm := fun env η => .exc c env η
def loopN (it : Itv) (g : Tgt) (s : Stm) : Nat → Nat → Stm
  | 0, _, _, _ => .bad
  | m + 1, k, env, η => match nextI it k η with
    | none => .bad
    | some none => .nxt env η
    | some (some d) => match g d env η with
      | .ok env1 η1 => (match s env1 η1 with
        | .nxt env2 η2 => loopN it g s m (k + 1) env2 η2
        | .cnt env2 η2 => loopN it g s m (k + 1) env2 η2
        | .brk env2 η2 => .nxt env2 η2
        | r => r)
      | _ => .bad
def sFor (i : Iex) (g : Tgt) (s : Stm) : Stm := fun env η => match i env η with
  | .ok it η1 => loopN it g s (sizeI it η1 + 1) 0 env η1
  | .exc c η1 => .exc c env η1
  | .bad => .bad
def whileN (t : Tst) (s : Stm) : Nat → Stm
  | 0, _, _ => .bad
  | m + 1, env, η => RS.ofB (t env η) env fun b η1 => if b then (match s env η1 with
    | .nxt env2 η2 => whileN t s m env2 η2
    | .cnt env2 η2 => whileN t s m env2 η2
    | .brk env2 η2 => .nxt env2 η2
    | r => r) else .nxt env η1
/-- try: the clauses' classes, each with its suite -/
def catchS (G : Gst) (c : Nat) (env : Ev) (η : Hv) : List (List Nat × Stm) → RS
  | [] => .exc c env η
  | (cs, s) :: r => if decide (c < G.nx) && cs.all (fun d => decide (d < G.nx)) then (if cs.any (G.sub c) then s env η else catchS G c env η r) else .bad
def sTry (G : Gst) (s : Stm) (hs : List (List Nat × Stm)) : Stm := fun env η => match s env η with
  | .exc c env1 η1 => catchS G c env1 η1 hs
  | r => r
/-! ### comprehensions -/
def wipeE (env : Ev) : List Nat → Ev
  | [] => env
  | v :: vs => (wipeE env vs).set v none
/-- the list that is gathered stands at L -/
def compN (it : Itv) (g : Tgt) (t : Tst) (m : Exp) (env : Ev) (L : Nat) : Nat → Nat → Hv → R Unit
  | 0, _, _ => .bad
  | n + 1, k, η => match nextI it k η with
    | none => .bad
    | some none => .ok () η
    | some (some d) => (g d env η).bind fun env1 η1 => (t env1 η1).bind fun b η2 => if b then (m env1 η2).bind fun x η3 => match η3[L]? with
        | some (.lst acc) => if acc.length < sizeLine then compN it g t m env L n (k + 1) (η3.set L (.lst (acc ++ [x]))) else .bad
        | _ => .bad
      else compN it g t m env L n (k + 1) η2
def xComp (own : List Nat) (i : Iex) (g : Tgt) (t : Tst) (m : Exp) : Exp := fun env η => (i env η).bind fun it η1 => (noExc (compN it g t m (wipeE env own) η1.length (sizeI it η1 + 1) 0 (η1 ++ [.lst []]))).bind fun _ η2 => .ok (.ref η1.length) η2
def tYesB : Tst := fun _ η => .ok true η
/-! ### sets of ints, told by how many they hold -/
def setN (it : Itv) (g : Tgt) (t : Tst) (m : Exp) (env : Ev) : Nat → Nat → List Int → Hv → R (List Int)
  | 0, _, _, _ => .bad
  | n + 1, k, S, η => match nextI it k η with
    | none => .bad
    | some none => .ok S η
    | some (some d) => (g d env η).bind fun env1 η1 => (t env1 η1).bind fun b η2 => if b then (m env1 η2).bind fun x η3 => match x with
        | .int j => if S.length < 4000 then setN it g t m env n (k + 1) (if S.contains j then S else j :: S) η3 else .bad
        | _ => .bad
      else setN it g t m env n (k + 1) S η2
def xLenSet (own : List Nat) (i : Iex) (g : Tgt) (t : Tst) (m : Exp) : Exp := fun env η => (i env η).bind fun it η1 => (noExc (setN it g t m (wipeE env own) (sizeI it η1 + 1) 0 [] η1)).bind fun S η2 => .ok (.int S.length) η2
/-! ### a comprehension of two fors -/
def compN2 (it : Itv) (g : Tgt) (t : Tst) (i1 : Iex) (g1 : Tgt) (t1 : Tst) (m : Exp) (env : Ev) (own1 : List Nat) (L : Nat) : Nat → Nat → Hv → R Unit
  | 0, _, _ => .bad
  | n + 1, k, η => match nextI it k η with
    | none => .bad
    | some none => .ok () η
    | some (some d) => (g d env η).bind fun env1 η1 => (t env1 η1).bind fun b η2 => if b then (i1 env1 η2).bind fun it1 η3 => (compN it1 g1 t1 m (wipeE env1 own1) L (sizeI it1 η3 + 1) 0 η3).bind fun _ η4 => compN2 it g t i1 g1 t1 m env own1 L n (k + 1) η4
      else compN2 it g t i1 g1 t1 m env own1 L n (k + 1) η2
def xComp2 (own own1 : List Nat) (i : Iex) (g : Tgt) (t : Tst) (i1 : Iex) (g1 : Tgt) (t1 : Tst) (m : Exp) : Exp := fun env η => (i env η).bind fun it η1 => (noExc (compN2 it g t i1 g1 t1 m (wipeE env own) own1 η1.length (sizeI it η1 + 1) 0 (η1 ++ [.lst []]))).bind fun _ η2 => .ok (.ref η1.length) η2
/-! ### f-strings -/
def fmtD (d : D) (η : Hv) : R D := match d with
  | .int i => if i.natAbs < 2 ^ 64 then .ok (.str (toString i)) η else .bad
  | .str s => if s.length ≤ sizeLine then .ok (.str s) η else .bad
  | _ => .bad
/-- the parts, one behind the other -/
def joinP : List Exp → Str → Ev → Hv → R D
  | [], acc, _, η => .ok (.str acc) η
  | m :: r, acc, env, η => (m env η).bind fun d η1 => match d with
    | .str y => if (acc ++ y).length ≤ sizeLine then joinP r (acc ++ y) env η1 else .bad
    | _ => .bad
def xJoin (ms : List Exp) : Exp := fun env η => joinP ms Str.empty env η
/-! ### slices with a step -/
def pickL {α : Type} (xs : List α) (lo hi : Option Int) (c : Int) : List α := (List.range (Builtin.Slice.slicePlaces (Builtin.Slice.sliceAdjust lo hi c (xs.length : Int)).1 (Builtin.Slice.sliceAdjust lo hi c (xs.length : Int)).2 c)).filterMap fun (m : Nat) => xs[((Builtin.Slice.sliceAdjust lo hi c (xs.length : Int)).1 + (m : Int) * c).toNat]?
def stpD (d : D) (lo hi st : Option Int) (η : Hv) : R D := match d, st with
  | .tup xs, some c => if c ≠ 0 ∧ c ≠ 1 ∧ (pickL xs lo hi c).length ≤ sizeLine then .ok (.tup (pickL xs lo hi c)) η else .bad
  | .str _, _ => .bad
  | d, some c => if c = -1 ∧ lo = none ∧ hi = none then (match lstOf η d with
    | some xs => newL xs.reverse η
    | none => .bad) else .bad
  | _, _ => .bad
def xStp (m : Exp) (lo hi st : Opt) : Exp := fun env η => (m env η).bind fun d η1 => (lo env η1).bind fun i η2 => (hi env η2).bind fun j η3 => (st env η3).bind fun c η4 => stpD d i j c η4
/-! ### tuple(zip(a, b)) -/
def zipL (xs ys : List D) : List D := (xs.zip ys).map fun p => .tup [p.1, p.2]
def xTupZip (l : Lst) : Exp := fun env η => (l env η).bind fun ds η2 => match ds with
  | [.tup xs, .tup ys] => if xs.length ≤ 1000 ∧ ys.length ≤ 1000 then .ok (.tup (zipL xs ys)) η2 else .bad
  | _ => .bad
end En
end

section
set_option maxRecDepth 100000
set_option maxHeartbeats 4000000
/-! FZ: lists that are new become values, where nothing of old has been changed. -/
noncomputable section
namespace En
open PySem PySem.Spec PyProof.Rows L2
/-! ### what is new and isn't needed behind a call goes -/
mutual
def ltD (n : Nat) : D → Bool
  | .tup xs => ltL n xs
  | .lst xs => ltL n xs
  | .scr xs => ltL n xs
  | .ref i => decide (i < n)
  | _ => true
def ltL (n : Nat) : List D → Bool
  | [] => true
  | d :: r => ltD n d && ltL n r
end
def ltO (n : Nat) : O → Bool
  | .lst xs => ltL n xs
  | .dct kvs => ltL n (kvs.map (·.2))
  | .ins _ fs => ltL n (fs.map (·.2))
mutual
/-- lists that are new become values; g tells of those -/
def frzD (n : Nat) (g : Nat → Option (List D)) : D → Option D
  | .tup xs => (frzL n g xs).map .tup
  | .lst xs => (frzL n g xs).map .lst
  | .scr xs => (frzL n g xs).map .scr
  | .ref i => if i < n then some (.ref i) else (g i).map .lst
  | d => some d
def frzL (n : Nat) (g : Nat → Option (List D)) : List D → Option (List D)
  | [] => some []
  | d :: r => match frzD n g d, frzL n g r with
    | some x, some xs => some (x :: xs)
    | _, _ => none
end
def frzR (n : Nat) (η : Hv) : Nat → Nat → Option (List D)
  | 0, _ => none
  | k + 1, i => match η[i]? with
    | some (.lst xs) => frzL n (frzR n η k) xs
    | _ => none
section
variable {K : PySem.W.Frag} {a : Ad} {ρ ρ' : List Addr} {H H' : Hp} {η η' : Hv}
theorem pre_at (p : ρ <+: ρ') {i : Nat} (h : i < ρ.length) : ρ'[i]? = ρ[i]? := by
  obtain ⟨t, rfl⟩ := p
  exact List.getElem?_append_left h
mutual
theorem Rep.low (p : ρ <+: ρ') : ∀ {d : D} {v : V}, Rep K ρ' H d v → ltD ρ.length d = true → Rep K ρ H d v
  | _, _, .non, _ => .non
  | _, _, .bl b, _ => .bl b
  | _, _, .int i, _ => .int i
  | _, _, .str s, _ => .str s
  | _, _, .tup h n r, l => .tup h (fun hm => n (p.subset hm)) (Reps.low p r l)
  | _, _, .ktup h r, l => .ktup h (Reps.low p r l)
  | _, _, .lst h n r, l => .lst h (fun hm => n (p.subset hm)) (Reps.low p r l)
  | _, _, .scr h n r, l => .scr h (fun hm => n (p.subset hm)) (Reps.low p r l)
  | _, _, .kscr h r, l => .kscr h (Reps.low p r l)
  | _, _, .ref h, l => .ref (by rw [← pre_at p (of_decide_eq_true l)]; exact h)
theorem Reps.low (p : ρ <+: ρ') : ∀ {d : List D} {v : List V}, Reps K ρ' H d v → ltL ρ.length d = true → Reps K ρ H d v
  | _, _, .nil, _ => .nil
  | _, _, .cons h r, l => by
    unfold ltL at l
    rw [Bool.and_eq_true] at l
    exact .cons (Rep.low p h l.1) (Reps.low p r l.2)
end
theorem ROb.low (p : ρ <+: ρ') {x : Addr} {o : O} (h : ROb K a.C ρ' H x o) (l : ltO ρ.length o = true) : ROb K a.C ρ H x o := by
  cases o with
  | lst ds => obtain ⟨vs, h1, h2⟩ := h; exact ⟨vs, h1, h2.low p l⟩
  | dct kvs => obtain ⟨kv, h1, h2, h3⟩ := h; exact ⟨kv, h1, h2, h3.low p l⟩
  | ins c fs => obtain ⟨dx, fv, h1, h2, h3⟩ := h; exact ⟨dx, fv, h1, h2, h3.low p l⟩
theorem Rel.low (r : Rel K a.C ρ' η' H) (p : ρ <+: ρ') (l : (η'.take ρ.length).all (ltO ρ.length) = true) : Rel K a.C ρ (η'.take ρ.length) H := by
  have hl : ρ.length ≤ ρ'.length := p.length_le
  refine ⟨by rw [List.length_take, ← r.len]; omega, r.nd.sublist p.sublist, fun i o x h1 h2 => ?_, r.tabs⟩
  have hi : i < ρ.length := (List.getElem?_eq_some_iff.mp h2).1
  rw [List.getElem?_take, if_pos hi] at h1
  refine (r.ob i o x h1 (by rw [pre_at p hi]; exact h2)).low p ?_
  have hm : o ∈ η'.take ρ.length := by
    refine List.mem_iff_getElem?.mpr ⟨i, ?_⟩
    rw [List.getElem?_take, if_pos hi]
    exact h1
  exact List.all_eq_true.mp l o hm
mutual
theorem frz_of (p : ρ <+: ρ') (g : Nat → Option (List D)) (hg : ∀ i xs v, ¬ i < ρ.length → g i = some xs → Rep K ρ' H (.ref i) v → Rep K ρ H (.lst xs) v) : ∀ {d : D} {v : V} {d' : D}, Rep K ρ' H d v → frzD ρ.length g d = some d' → Rep K ρ H d' v
  | _, _, _, .non, h => by cases h; exact .non
  | _, _, _, .bl b, h => by cases h; exact .bl b
  | _, _, _, .int i, h => by cases h; exact .int i
  | _, _, _, .str s, h => by cases h; exact .str s
  | _, _, _, .tup (ds := ds) h0 n r, h => by
    unfold frzD at h
    cases q : frzL ρ.length g ds with
    | none => rw [q] at h; cases h
    | some xs => rw [q] at h; cases h; exact .tup h0 (fun hm => n (p.subset hm)) (frzL_of p g hg r q)
  | _, _, _, .ktup (ds := ds) h0 r, h => by
    unfold frzD at h
    cases q : frzL ρ.length g ds with
    | none => rw [q] at h; cases h
    | some xs => rw [q] at h; cases h; exact .ktup h0 (frzL_of p g hg r q)
  | _, _, _, .lst (ds := ds) h0 n r, h => by
    unfold frzD at h
    cases q : frzL ρ.length g ds with
    | none => rw [q] at h; cases h
    | some xs => rw [q] at h; cases h; exact .lst h0 (fun hm => n (p.subset hm)) (frzL_of p g hg r q)
  | _, _, _, .scr (ds := ds) h0 n r, h => by
    unfold frzD at h
    cases q : frzL ρ.length g ds with
    | none => rw [q] at h; cases h
    | some xs => rw [q] at h; cases h; exact .scr h0 (fun hm => n (p.subset hm)) (frzL_of p g hg r q)
  | _, _, _, .kscr (ds := ds) h0 r, h => by
    unfold frzD at h
    cases q : frzL ρ.length g ds with
    | none => rw [q] at h; cases h
    | some xs => rw [q] at h; cases h; exact .kscr h0 (frzL_of p g hg r q)
  | _, _, d', .ref (i := i) h0, h => by
    unfold frzD at h
    by_cases hi : i < ρ.length
    · rw [if_pos hi] at h
      cases h
      exact .ref (by rw [← pre_at p hi]; exact h0)
    · rw [if_neg hi] at h
      cases q : g i with
      | none => rw [q] at h; cases h
      | some xs => rw [q] at h; cases h; exact hg i xs _ hi q (.ref h0)
theorem frzL_of (p : ρ <+: ρ') (g : Nat → Option (List D)) (hg : ∀ i xs v, ¬ i < ρ.length → g i = some xs → Rep K ρ' H (.ref i) v → Rep K ρ H (.lst xs) v) : ∀ {d : List D} {v : List V} {d' : List D}, Reps K ρ' H d v → frzL ρ.length g d = some d' → Reps K ρ H d' v
  | _, _, _, .nil, h => by cases h; exact .nil
  | _, _, _, .cons (d := d) (ds := ds) h0 r, h => by
    unfold frzL at h
    cases q : frzD ρ.length g d with
    | none => rw [q] at h; simp at h
    | some x =>
      cases q2 : frzL ρ.length g ds with
      | none => rw [q, q2] at h; simp at h
      | some xs => rw [q, q2] at h; cases h; exact .cons (frz_of p g hg h0 q) (frzL_of p g hg r q2)
end
theorem frzR_of (r : Rel K a.C ρ' η' H) (p : ρ <+: ρ') : ∀ (k i : Nat) (xs : List D) (v : V), ¬ i < ρ.length → frzR ρ.length η' k i = some xs → Rep K ρ' H (.ref i) v → Rep K ρ H (.lst xs) v
  | 0, _, _, _, _, h, _ => by cases h
  | k + 1, i, xs, v, hi, h, rp => by
    unfold frzR at h
    split at h
    · rename_i ys q
      obtain ⟨x, vs, rfl, hx, h1, h2⟩ := r.lst q rp
      refine .lst h1 (fun hm => ?_) (frzL_of p _ (frzR_of r p k) h2 h)
      obtain ⟨j, hj, e⟩ := List.mem_iff_getElem.mp hm
      have h3 : ρ'[j]? = some x := by rw [pre_at p hj, List.getElem?_eq_getElem hj, e]
      exact hi (nd_ix r.nd h3 hx ▸ hj)
    · cases h
theorem Ext.low (e : Ext ρ H ρ' H') : Ext ρ H ρ H' := ⟨List.prefix_refl _, e.keep, fun _ h n => absurd h n⟩
mutual
theorem Rep.lt : ∀ {d : D} {v : V}, Rep K ρ H d v → ltD ρ.length d = true
  | _, _, .non => rfl
  | _, _, .bl _ => rfl
  | _, _, .int _ => rfl
  | _, _, .str _ => rfl
  | _, _, .tup (ds := ds) _ _ r => Reps.lt (d := ds) r
  | _, _, .ktup (ds := ds) _ r => Reps.lt (d := ds) r
  | _, _, .lst (ds := ds) _ _ r => Reps.lt (d := ds) r
  | _, _, .scr (ds := ds) _ _ r => Reps.lt (d := ds) r
  | _, _, .kscr (ds := ds) _ r => Reps.lt (d := ds) r
  | _, _, .ref h => decide_eq_true (List.getElem?_eq_some_iff.mp h).1
theorem Reps.lt : ∀ {d : List D} {v : List V}, Reps K ρ H d v → ltL ρ.length d = true
  | _, _, .nil => rfl
  | _, _, .cons h r => by
    unfold ltL
    rw [Rep.lt h, Reps.lt r]
    rfl
end
theorem Rel.gd (r : Rel K a.C ρ η H) : η.all (ltO ρ.length) = true := by
  rw [List.all_eq_true]
  intro o ho
  obtain ⟨i, hi⟩ := List.mem_iff_getElem?.mp ho
  have hl : i < ρ.length := by rw [r.len]; exact (List.getElem?_eq_some_iff.mp hi).1
  have h := r.ob i o _ hi (List.getElem?_eq_getElem hl)
  cases o with
  | lst ds => obtain ⟨vs, _, h2⟩ := h; exact Reps.lt h2
  | dct kvs => obtain ⟨kv, _, _, h3⟩ := h; exact Reps.lt h3
  | ins c fs => obtain ⟨dx, fv, _, _, h3⟩ := h; exact Reps.lt h3
/-- what is new may be cut off: nothing of old holds any of it (where nothing dangled before) -/
def Cut (η η1 : Hv) : Prop := η.length ≤ η1.length ∧ (η.all (ltO η.length) = true → (η1.take η.length).all (ltO η.length) = true)
open Classical in
/-- what is new is frozen and cut off -/
def frz (η : Hv) (r : R D) : R D := match r with
  | .ok d η1 => if Cut η η1 then (match frzD η.length (frzR η.length η1 5) d with
    | some d' => .ok d' (η1.take η.length)
    | none => .ok d η1) else .ok d η1
  | .exc c η1 => if Cut η η1 then .exc c (η1.take η.length) else .exc c η1
  | .bad => .bad
/-- the frozen end is as good -/
theorem frz_of' {W : L2.St → XK} {σ : L2.St} {Q : VK} {r : R D} (rel : Rel K a.C ρ η H) (h : Out K a W σ ρ H (frz η r) Q) : Out K a W σ ρ H r Q := by
  have hg := rel.gd
  have hl := rel.len
  cases r with
  | bad => exact h
  | exc c η1 =>
    unfold frz at h
    dsimp only at h
    split at h
    · rename_i hc
      rw [← hl] at h
      have hc2 := hc.2
      rw [← hl] at hc2
      exact fun ρ1 H1 e r1 => h ρ H1 e.low (r1.low e.pre (hc2 hg))
    · exact h
  | ok d η1 =>
    unfold frz at h
    dsimp only at h
    split at h
    · rename_i hc
      have hc2 := hc.2
      rw [← hl] at hc2 h
      split at h
      · rename_i d' hd
        exact fun ρ1 H1 v e r1 p1 => h ρ H1 v e.low (r1.low e.pre (hc2 hg)) (frz_of e.pre _ (frzR_of r1 e.pre 5) p1 hd)
      · exact h
    · exact h
end
def xFrz (m : Exp) : Exp := fun env η => frz η (m env η)
def fzIf (b : Bool) (m : Exp) : Exp := if b then xFrz m else m
def gStarF (g h : Tgt) : Tgt := fun d env η => match starOf η d with
  | some (x, r) => if r.length ≤ 16000 then (g x env η).bind fun env1 η1 => h (.lst r) env1 η1 else .bad
  | none => .bad
theorem s_frz {X : Cx} {a : Ad} {W : L2.St → XK} {e : Expr} {m : Exp} (h : PE X e (tE X.K a W m)) : PE X e (tE X.K a W (xFrz m)) := h.imp fun σ H Q ⟨ρ, η, env, rel, er, h⟩ => ⟨ρ, η, env, rel, er, frz_of' rel h⟩
theorem s_fz {X : Cx} {a : Ad} {W : L2.St → XK} {e : Expr} {m : Exp} {b : Bool} (h : PE X e (tE X.K a W m)) : PE X e (tE X.K a W (fzIf b m)) := by
  cases b
  · exact h
  · exact s_frz h
theorem fz_read {K : PySem.W.Frag} {a : Ad} {W : L2.St → XK} {m : Exp} {b : Bool} {σ : L2.St} {H : Hp} {Q : VK} (h : tE K a W (fzIf b m) σ H Q) : tE K a W m σ H Q := by
  cases b
  · exact h
  · obtain ⟨ρ, η, env, rel, er, h⟩ := h
    exact ⟨ρ, η, env, rel, er, frz_of' rel h⟩
end En
end

section
set_option maxRecDepth 100000
set_option maxHeartbeats 4000000
/-! EH: the evaluator. -/
noncomputable section
namespace En
open PySem PySem.Spec PyProof.Rows L2

def visB (sc : Scope) (x : Str) : Bool := (match sc.names.lookup x with
  | some .local => true
  | some .cell => true
  | some .free => true
  | _ => false) && !(x == ("__debug__" : Str)) && !(x == ("__classdict__" : Str))
def gloB (sc : Scope) (x : Str) : Bool := (match sc.names.lookup x with
  | some .globalImplicit => true
  | _ => false) && !(x == ("__debug__" : Str)) && decide (x ≠ "__name__")
/-- a name that is stored: in a block (blk) its own locals alone -/
def locB (blk : Bool) (sc : Scope) (x : Str) : Bool := match sc.names.lookup x with
  | some .local => true
  | some .cell => !blk
  | _ => false
def noStar : Expr → Bool
  | .Starred .. => false
  | _ => true
def notSup : Expr → Bool
  | .Call (.Name _ _) [] [] _ => false
  | _ => true
def isTup : Expr → Bool
  | .Tuple .. => true
  | _ => false
def noSlice : Expr → Bool
  | .Slice .. => false
  | _ => true
def notSet : Expr → Bool
  | .Set .. => false
  | _ => true
def notComp : Expr → Bool
  | .ListComp .. => false
  | .SetComp .. => false
  | .DictComp .. => false
  | _ => true
def bmName (m : Str) : Bool := (["append", "index", "get", "pop", "count", "setdefault", "items", "join", "split", "partition", "startswith", "update"] : List Str).contains m
/-- no parameters at all -/
def lamAr (p : Arguments) : Bool := p.posonlyargs.isEmpty && p.args.isEmpty && p.vararg.isNone && p.kwonlyargs.isEmpty && p.kw_defaults.isEmpty && p.kwarg.isNone && p.defaults.isEmpty
def kwName : Keyword → Str
  | ⟨some x, _, _⟩ => x
  | _ => Str.empty
def kwSome : Keyword → Bool
  | ⟨some _, _, _⟩ => true
  | _ => false
/-- the slots of a block's own names -/
def ownOf (cx : Cc) (scope : Scope) : List (Str × Nat) := scope.names.filterMap fun y => match y.2 with
  | .local => (match cx.tab.lookup y.1 with
    | some (.slot i) => some (y.1, i)
    | _ => none)
  | .cell => (match cx.tab.lookup y.1 with
    | some (.slot i) => some (y.1, i)
    | _ => none)
  | _ => none
def biType : Bi → Option String
  | .int => some "int"
  | .bool => some "bool"
  | .str => some "str"
  | .tuple => some "tuple"
  | .list => some "list"
  | .dict => some "dict"
  | _ => none
/-- isinstance of a built-in type -/
def tyName (η : Hv) : D → Option String
  | .non => some "NoneType"
  | .bl _ => some "bool"
  | .int _ => some "int"
  | .str _ => some "str"
  | .tup _ => some "tuple"
  | .lst _ => some "list"
  | .scr _ => some "list"
  | .ref i => match η[i]? with
    | some (.lst _) => some "list"
    | some (.dct _) => some "dict"
    | _ => none
  | .exc _ => none
def xIsT (T : String) (m : Exp) : Exp := fun env η => (m env η).bind fun d η1 => match (tyName η1 d).bind fun n => kitB n T with
  | some b => .ok (.bl b) η1
  | none => .bad
/-- list(range(n)) -/
def xListRng (i : Iex) : Exp := fun env η => (i env η).bind fun it η1 => match it with
  | .rng lo n => if n ≤ 2 ^ 24 then newL ((List.range n).map fun k => .int (lo + (k : Nat))) η1 else .bad
  | _ => .bad
/-- list(d.items()) -/
def xListItems (m : Exp) : Exp := fun env η => (m env η).bind fun d η1 => match dctOf η1 d with
  | some kvs => newL (kvs.map fun kv => .tup [match kv.1 with
    | .inl i => .int i
    | .inr s => .str s, kv.2]) η1
  | none => .bad
def xDictNew : Exp := fun _ η => .ok (.ref η.length) (η ++ [.dct []])

inductive Pre where
  | no | rng (y : Str) (i : Iex) (ok : Bool) | itm (m : Str) (o : Exp) (ok : Bool) | sets (m : Exp) (ok : Bool) | lam (m : Exp) (ok : Bool) | zip (y : Str) (l : Lst) (ok : Bool)
def secName : List Expr → Option Str
  | [_, .Name y _] => some y
  | _ => none
section
variable (cx : Cc) (G : Gst)
/-- a call by a name -/
def callN (sc : Scope) (s : Option Sy) (args : List Expr) (kws : List Keyword) (h : Exp) (p : Pre) (l k : Lst) : Exp := match s, kws with
  | some (.bi .isinstance), [] => (match secName args with
    | some y => if gloB sc y then (match cx.tab.lookup y with
      | some (.bi T) => (match biType T with
        | some t => xIsT t h
        | none => xBad)
      | some (.cls c) => xIsC G c h
      | _ => xBad) else xBad
    | none => xBad)
  | some (.bi .list), [] => (match p with
    | .rng y i ok => (match cx.tab.lookup y with
      | some (.bi .range) => if ok then xListRng i else xBad
      | _ => xFn (G.B .list) l)
    | .itm m o ok => if m = "items" then (if ok then xListItems o else xBad) else xFn (G.B .list) l
    | _ => if args.isEmpty then xBad else xFn (G.B .list) l)
  | some (.bi .len), [] => (match p with
    | .sets m ok => if ok then m else xBad
    | _ => if args.isEmpty then xBad else xFn (G.B .len) l)
  | some (.bi .tuple), [] => (match p with
    | .zip y l2 ok => (match cx.tab.lookup y with
      | some (.bi .zip) => if ok then xTupZip l2 else xBad
      | _ => xFn (G.B .tuple) l)
    | _ => if args.isEmpty then xBad else xFn (G.B .tuple) l)
  | some (.bi b), [] => if args.isEmpty || decide (b = .range) then xBad else xFn (G.B b) l
  | some (.fn f), [] => (match G.dfl f args.length with
    | some ds => xCall G f ds l
    | none => xBad)
  | some (.fn f), k1 :: kr => if (k1 :: kr).all kwSome then (match G.kwd f args.length ((k1 :: kr).map kwName) with
    | some g => xCallK G f g l k
    | none => xBad) else xBad
  | some (.cls c), [] => (match G.init c with
    | some f => (match G.dfl f (args.length + 1) with
      | some ds => xMake G c f ds l
      | none => xBad)
    | none => xBad)
  | some (.cls c), k1 :: kr => if (k1 :: kr).all kwSome then (match G.init c with
    | some f => (match G.kwd f (args.length + 1) ((k1 :: kr).map kwName) with
      | some g => xMakeK G c f g l k
      | none => xBad)
    | none => xBad) else xBad
  | some (.said w), [] => (match p with
    | .lam m ok => if ok then xSaid m w else xBad
    | _ => xBad)
  | _, _ => xBad
/-- T.index(text): T a tuple of texts that the top has written -/
def xKtIx (ds : List Str) (m : Exp) : Exp := fun env η => (m env η).bind fun d η1 => match d with
  | .str z => (match ds.findIdx? (· == z) with
    | some j => okI j η1
    | none => .bad)
  | _ => .bad
def ktOf (sc : Scope) : Expr → Option (List Str)
  | .Name x _ => if gloB sc x then (match cx.tab.lookup x with
    | some (.kt ds) => some ds
    | _ => none) else none
  | _ => none
def callM (m : Str) (n : Nat) (kws : List Keyword) (kt : Option (List Str)) (h : Exp) (o : Exp) (l k : Lst) : Exp := match kt with
  | some ds => (match decide (m = "index" ∧ n = 1), kws with
    | true, [] => xKtIx ds h
    | _, _ => xBad)
  | none => (match bmName m, kws with
    | true, [] => if n = 0 then xBad else xBm G m o l
    | false, [] => xMeth G m n o l
    | false, k1 :: kr => if (k1 :: kr).all kwSome then xMethK G m n ((k1 :: kr).map kwName) o l k else xBad
    | _, _ => xBad)
def opFz : Operator → Bool
  | .Add => true
  | .Mult => true
  | _ => false
def callFz : Option Sy → Bool
  | some (.bi .list) => true
  | some (.bi .sorted) => true
  | _ => false
mutual
def evE (sc : Scope) (blk : Bool) : Expr → Exp
  | .Constant (.int i) _ _ => xC (.int i)
  | .Constant (.bool b) _ _ => xC (.bl b)
  | .Constant (.str s) _ _ => xC (.str s)
  | .Constant .none _ _ => xC .non
  | .Name x _ => match cx.tab.lookup x with
    | some (.slot i) => if visB sc x then xVar i else xBad
    | some (.cst d) => if gloB sc x then xC d else xBad
    | some (.kt ds) => if gloB sc x then xC (.tup (ds.map D.str)) else xBad
    | _ => xBad
  | .Tuple es _ _ => xTup (evL sc blk es)
  | .List es _ => fzIf cx.fz (xLst (evL sc blk es))
  | .Dict [] [] _ => xDictNew
  | .BinOp l o r _ => fzIf (cx.fz && opFz o) (x2 (binF o) (evE sc blk l) (evE sc blk r))
  | .UnaryOp .Not e _ => xNot (evE sc blk e)
  | .UnaryOp .USub e _ => x1 negD (evE sc blk e)
  | .BoolOp .And (e :: es) _ => evAnd sc blk (evE sc blk e) es
  | .BoolOp .Or (e :: es) _ => evOr sc blk (evE sc blk e) es
  | .IfExp t m n _ => xIf (evT sc blk t (evE sc blk t)) (evE sc blk m) (evE sc blk n)
  | .Compare l [o] [r] _ => if notSet r then x2 (cmpF o) (evE sc blk l) (evE sc blk r) else xBad
  | .Compare l [o, o'] [r, s] _ => if notSet r && notSet s then xChain (cmpF o) (cmpF o') (evE sc blk l) (evE sc blk r) (evE sc blk s) else xBad
  | .Attribute o f _ => if notSup o then x1 (fldOf G f) (evE sc blk o) else xBad
  | .Subscript o (.Slice lo hi none _) _ => fzIf cx.fz (xSlc (evE sc blk o) (evO sc blk lo) (evO sc blk hi))
  | .Subscript o (.Slice lo hi (some st) _) _ => fzIf cx.fz (xStp (evE sc blk o) (evO sc blk lo) (evO sc blk hi) (xPart (evE sc blk st)))
  | .JoinedStr (v1 :: v2 :: rest) _ => xJoin (evF sc blk (v1 :: v2 :: rest))
  | .ListComp elt [⟨tg, it, ifs, asy⟩, ⟨tg1, it1, ifs1, asy1⟩] scope _ =>
    if asy = 0 ∧ asy1 = 0 ∧ blkC cx.N sc scope (ownOf cx scope) = true ∧ notSet it = true ∧ notSet it1 = true then
      fzIf cx.fz (xComp2 ((ownOf cx scope).map (·.2)) ((ownOf cx scope).map (·.2)) (evI sc blk (isTup tg) it (evE sc blk it)) (evG (relS scope sc) true tg) (evC (relS scope sc) ifs) (evI (relS scope sc) true (isTup tg1) it1 (evE (relS scope sc) true it1)) (evG (relS scope sc) true tg1) (evC (relS scope sc) ifs1) (evE (relS scope sc) true elt))
    else xBad
  | .Subscript o i _ => if noSlice i then xIx (evE sc blk o) (evE sc blk i) else xBad
  | .ListComp elt [⟨tg, it, ifs, asy⟩] scope _ =>
    if asy = 0 ∧ blkC cx.N sc scope (ownOf cx scope) = true ∧ notSet it = true then
      fzIf cx.fz (xComp ((ownOf cx scope).map (·.2)) (evI sc blk (isTup tg) it (evE sc blk it)) (evG (relS scope sc) true tg) (evC (relS scope sc) ifs) (evE (relS scope sc) true elt))
    else xBad
  | .Call (.Name x _) args kws _ => if gloB sc x && args.all noStar then fzIf (cx.fz && callFz (cx.tab.lookup x)) (callN cx G sc (cx.tab.lookup x) args kws (evH sc blk args) (evP sc blk args) (evL sc blk args) (evK sc blk kws)) else xBad
  | .Call (.Attribute o m apos) args kws cpos => if notSup o && (apos.endLine == cpos.line) && decide (args.length + kws.length < 20) && args.all noStar then
      fzIf (cx.fz && decide (m = "split")) (callM G m args.length kws (ktOf cx sc o) (evH sc blk args) (evE sc blk o) (evL sc blk args) (evK sc blk kws)) else xBad
  | _ => xBad
/-- the first argument alone -/
def evH (sc : Scope) (blk : Bool) : List Expr → Exp
  | e :: _ => if noStar e then evE sc blk e else xBad
  | [] => xBad
/-- arguments that are seen as a whole: range(..), d.items() under list, a set under len -/
def evP (sc : Scope) (blk : Bool) : List Expr → Pre
  | [.Call (.Name y _) [a, b] [] _] => .zip y (xCons (evE sc blk a) (xCons (evE sc blk b) xNil)) (gloB sc y && noStar a && noStar b)
  | [.Call (.Name y _) [a] [] _] => .rng y (iRng1 (evE sc blk a)) (gloB sc y && noStar a)
  | [.Call (.Attribute o m apos) [] [] cpos] => .itm m (evE sc blk o) (notSup o && (apos.endLine == cpos.line))
  | [.SetComp elt [⟨tg, it, ifs, asy⟩] scope _] =>
    .sets (xLenSet ((ownOf cx scope).map (·.2)) (evI sc blk (isTup tg) it (evE sc blk it)) (evG (relS scope sc) true tg) (evC (relS scope sc) ifs) (evE (relS scope sc) true elt)) (decide (asy = 0) && blkC cx.N sc scope (ownOf cx scope) && notSet it)
  | [.Lambda params body scope _] => .lam (evE scope true body) (cx.lam && !blk && LamX.lamSB sc scope && lamAr params)
  | _ => .no
def evL (sc : Scope) (blk : Bool) : List Expr → Lst
  | [] => xNil
  | e :: r => if noStar e then xCons (evE sc blk e) (evL sc blk r) else fun _ _ => .bad
def evK (sc : Scope) (blk : Bool) : List Keyword → Lst
  | [] => xNil
  | ⟨_, e, _⟩ :: r => xCons (evE sc blk e) (evK sc blk r)
/-- an f-string's parts -/
def evF (sc : Scope) (blk : Bool) : List Expr → List Exp
  | [] => []
  | .FormattedValue e c none _ :: r => (if c = -1 then x1 fmtD (evE sc blk e) else xBad) :: evF sc blk r
  | .Constant (.str s) _ _ :: r => xC (.str s) :: evF sc blk r
  | _ :: r => xBad :: evF sc blk r
def evAnd (sc : Scope) (blk : Bool) (m : Exp) : List Expr → Exp
  | [] => m
  | e :: r => xAnd m (evAnd sc blk (evE sc blk e) r)
def evOr (sc : Scope) (blk : Bool) (m : Exp) : List Expr → Exp
  | [] => m
  | e :: r => xOr m (evOr sc blk (evE sc blk e) r)
def evT (sc : Scope) (blk : Bool) : Expr → Exp → Tst
  | .UnaryOp .Not e _, _ => xNotT (evT sc blk e (evE sc blk e))
  | .BoolOp .And (e :: es) _, _ => evAndT sc blk (evT sc blk e (evE sc blk e)) es
  | .BoolOp .Or (e :: es) _, _ => evOrT sc blk (evT sc blk e (evE sc blk e)) es
  | .Compare _ _ _ _, whole => xBool whole
  | .Name _ _, whole => xTru whole
  | .Attribute _ _ _, whole => xTru whole
  | .Subscript _ _ _, whole => xTru whole
  | .Call _ _ _ _, whole => xTru whole
  | .Constant _ _ _, whole => xTru whole
  | _, _ => fun _ _ => .bad
def evAndT (sc : Scope) (blk : Bool) (m : Tst) : List Expr → Tst
  | [] => m
  | e :: r => xAndT m (evAndT sc blk (evT sc blk e (evE sc blk e)) r)
def evOrT (sc : Scope) (blk : Bool) (m : Tst) : List Expr → Tst
  | [] => m
  | e :: r => xOrT m (evOrT sc blk (evT sc blk e (evE sc blk e)) r)
def evO (sc : Scope) (blk : Bool) : Option Expr → Opt
  | none => xNoPart
  | some e => xPart (evE sc blk e)
def evC (sc : Scope) : List Expr → Tst
  | [] => tYesB
  | [e] => evT sc true e (evE sc true e)
  | _ => fun _ _ => .bad
/-- what a for walks: tup tells whether its target is a tuple -/
def evI (sc : Scope) (blk tup : Bool) : Expr → Exp → Iex
  | .Call (.Name x _) as ks _, whole => (match cx.tab.lookup x, as, ks with
    | some (.bi .range), [a], [] => if gloB sc x && noStar a then iRng1 (evE sc blk a) else iBad
    | some (.bi .range), [a, b], [] => if gloB sc x && noStar a && noStar b then iRng2 (evE sc blk a) (evE sc blk b) else iBad
    | some (.bi .enumerate), [a], [] => if gloB sc x && noStar a && tup then iEnum (evE sc blk a) else iBad
    | some (.bi .zip), [a, b], [] => if gloB sc x && noStar a && noStar b && tup then iZip (evE sc blk a) (evE sc blk b) else iBad
    | _, _, _ => iVal whole)
  | _, whole => iVal whole
def evG (sc : Scope) (blk : Bool) : Expr → Tgt
  | .Name x _ => match cx.tab.lookup x with
    | some (.slot i) => if locB blk sc x then gSlot i else gBad
    | _ => gBad
  | .Tuple [.Name x _, .Starred (.Name y _) _] _ _ => match cx.tab.lookup x, cx.tab.lookup y with
    | some (.slot i), some (.slot j) => if locB blk sc x && locB blk sc y then (if cx.mu.contains j then gStar1 (gSlot i) (gSlot j) else gStarF (gSlot i) (gSlot j)) else gBad
    | _, _ => gBad
  | .Tuple es _ _ => if es.all noStar then gTupl es.length (evGs sc blk es) else gBad
  | .Attribute o f _ => if notSup o then gFld G f (evE sc blk o) else gBad
  | .Subscript o i _ => if noSlice i then gIx (evE sc blk o) (evE sc blk i) else gBad
  | _ => gBad
def evGs (sc : Scope) (blk : Bool) : List Expr → Tgts
  | [] => gsNil
  | e :: r => gsCons (evG sc blk e) (evGs sc blk r)
end
/-! ### statements -/
def okTg : Expr → Bool
  | .Name .. => true
  | .Tuple .. => true
  | .Attribute .. => true
  | .Subscript .. => true
  | _ => false
def okName (cx : Cc) (sc : Scope) : Expr → Bool
  | .Name x _ => (match cx.tab.lookup x with
    | some (.slot _) => locB false sc x
    | _ => false)
  | _ => true
def isName : Expr → Bool
  | .Name .. => true
  | _ => false
/-- name = [..]: how the stores of a comprehension stand -/
def swCase (sc : Scope) (tg e : Expr) (line : Nat) : Bool := match e with
  | .ListComp elt gs scope pos => (match tg with
    | .Name t p => if (match sc.names.lookup t with
        | some .local => true
        | _ => false) && (p.line == pos.line) && !(scope.names.any fun (n, k) => n == t && (k == .local || k == .cell)) then true else false
    | _ => false)
  | _ => false
/-- the stores of a, b = x, y are turned about: 2 names, 3 names, or not at all -/
def localN (sc : Scope) (line : Nat) : Expr → Option Str
  | .Name id pos => if (match sc.names.lookup id with
      | some .local => true
      | _ => false) && pos.line == line then some id else none
  | _ => none
def swNone (sc : Scope) (tg e : Expr) : Bool := match tg, e with
  | .Tuple ts _ _, .Tuple vs _ _ => !(ts.length == 2 || ts.length == 3) || vs.length != ts.length || !(vs.all noStar) ||
      (let line := (ts.head?.map (·.pos.line)).getD 0
       let names := ts.filterMap (localN sc line)
       names.length != ts.length || vs.all (foldedForSure 8))
  | _, _ => true
def evPar (sc : Scope) : List Expr → List Expr → Option (List Str)
  | [.Name x px, .Name y py], [a, b] => (match sc.names.lookup x, sc.names.lookup y with
    | some .local, some .local => if px.line == py.line && decide (x ≠ y) && noStar a && noStar b && !(foldedForSure 8 a && foldedForSure 8 b) && !(constantsAlone 8 a && constantsAlone 8 b) then some [x, y] else none
    | _, _ => none)
  | [.Name x px, .Name y py, .Name z pz], [a, b, c] => (match sc.names.lookup x, sc.names.lookup y, sc.names.lookup z with
    | some .local, some .local, some .local => if px.line == py.line && px.line == pz.line && decide (x ≠ y) && decide (x ≠ z) && decide (y ≠ z) && noStar a && noStar b && noStar c && !(foldedForSure 8 a && foldedForSure 8 b && foldedForSure 8 c) && !(constantsAlone 8 a && constantsAlone 8 b && constantsAlone 8 c) then some [x, y, z] else none
    | _, _, _ => none)
  | _, _ => none
def slotsOf (cx : Cc) : List Str → Option Tgts
  | [] => some gsNil
  | x :: r => match cx.tab.lookup x, slotsOf cx r with
    | some (.slot i), some t => some (gsCons (gSlot i) t)
    | _, _ => none
/-- x += e -/
def sAug (i : Nat) (m : Exp) : Stm := fun env η => match env[i]? with
  | some (some d) => RS.ofE (m env η) env fun e η1 => (match d, e with
    | .int x, .int y => .nxt (env.set i (some (.int (x + y)))) η1
    | _, _ => .bad)
  | _ => .bad
def sAugF (G : Gst) (f : Str) (o m : Exp) : Stm := fun env η => RS.ofE (o env η) env fun d η1 => match d with
  | .ref i => (match η1[i]? with
    | some (.ins c fs) => if G.noat c f then (match fs.lookup f with
      | some (.int x) => RS.ofE (m env η1) env fun e η2 => (match e, η2[i]? with
        | .int y, some (.ins c2 fs2) => if decide (c2 = c) && decide (fs2.length < 900) then .nxt env (η2.set i (.ins c (putF f (.int (x + y)) fs2))) else .bad
        | _, _ => .bad)
      | _ => .bad) else .bad
    | _ => .bad)
  | _ => .bad
def getL (d k : D) (η : Hv) : R D := match lstOf η d, k with
  | some xs, .int i => if 0 ≤ i then (match xs[i.toNat]? with
    | some x => .ok x η
    | none => .bad) else .bad
  | _, _ => .bad
def sAugI (o i m : Exp) : Stm := fun env η => RS.ofE (o env η) env fun d η1 => RS.ofE (i env η1) env fun k η2 => RS.ofE (getL d k η2) env fun x η3 => RS.ofE (m env η3) env fun y η4 => match x, y with
  | .int a, .int b => (match setItemD d k (.int (a + b)) η4 with
    | .ok _ η5 => .nxt env η5
    | _ => .bad)
  | _, _ => .bad
/-- a constant, a tuple of constants -/
def cstD : Expr → Option D
  | .Constant (.int i) _ _ => some (.int i)
  | .Constant (.bool b) _ _ => some (.bl b)
  | .Constant (.str s) _ _ => some (.str s)
  | .Constant .none _ _ => some .non
  | _ => none
def cstL : List Expr → Option (List D)
  | [] => some []
  | e :: r => match cstD e, cstL r with
    | some d, some ds => some (d :: ds)
    | _, _ => none
/-- a clause's suite -/
def evSuite : List Stmt → Option Stm
  | [.Return (some (.Tuple es _ _)) _] => (cstL es).bind fun ds => if ds.length ≤ 8 then some fun _ η => .ret (.tup ds) η else none
  | [.Return (some e) _] => (cstD e).map fun d => fun _ η => .ret d η
  | [.Break _] => some sBrk
  | _ => none
def excOf (cx : Cc) (sc : Scope) : Expr → Option Nat
  | .Name x _ => if gloB sc x then (match cx.tab.lookup x with
    | some (.exc c) => some c
    | _ => none) else none
  | _ => none
def excsOf (cx : Cc) (sc : Scope) : List Expr → Option (List Nat)
  | [] => some []
  | e :: r => match excOf cx sc e, excsOf cx sc r with
    | some c, some cs => some (c :: cs)
    | _, _ => none
def evHs (sc : Scope) : List ExceptHandler → Option (List (List Nat × Stm))
  | [] => some []
  | .ExceptHandler (some e) none suite _ :: r => (match excOf cx sc e, evSuite suite, evHs sc r with
    | some c, some s, some l => some (([c], s) :: l)
    | _, _, _ => none)
  | _ => none
/-- whether what is stored there is never changed -/
def slotFz : Expr → Bool
  | .Name x _ => (match cx.tab.lookup x with
    | some (.slot i) => !(cx.mu.contains i)
    | _ => true)
  | _ => false
def tgFz : Expr → Bool
  | .Tuple es _ _ => es.all (slotFz cx)
  | e => slotFz cx e
mutual
def evS (sc : Scope) : Stmt → Stm
  | .Pass _ => sPass
  | .Break _ => sBrk
  | .Continue _ => sCnt
  | .Expr e _ => if notComp e then sExp (evE cx G sc false e) else sBad
  | .Return (some e) _ => sRet (evE (cx.z cx.rz) G sc false e)
  | .Return none _ => sRetN
  | .If t a b _ => sIf (evT cx G sc false t (evE cx G sc false t)) (evSs sc a) (evSs sc b)
  | .Assign [.Tuple ts k p] (.Tuple vs k2 p2) _ => (match (evPar sc ts vs).bind (slotsOf cx) with
    | some g => sPar (evL (cx.z (ts.all (slotFz cx))) G sc false vs) g
    | none => if swNone sc (.Tuple ts k p) (.Tuple vs k2 p2) then sAsg (evE (cx.z (tgFz cx (.Tuple ts k p))) G sc false (.Tuple vs k2 p2)) (evG cx G sc false (.Tuple ts k p)) else sBad)
  | .Assign [tg] e pos => if okTg tg && swNone sc tg e && okName cx sc tg && (notComp e || swCase sc tg e pos.line || !isName tg) then sAsg (evE (cx.z (tgFz cx tg)) G sc false e) (evG cx G sc false tg) else sBad
  | .AugAssign (.Name x _) .Add e _ => (match cx.tab.lookup x with
    | some (.slot i) => if locB false sc x && visB sc x then sAug i (evE cx G sc false e) else sBad
    | _ => sBad)
  | .AugAssign (.Attribute o f _) .Add e _ => sAugF G f (evE cx G sc false o) (evE cx G sc false e)
  | .AugAssign (.Subscript o i _) .Add e _ => if noSlice i then sAugI (evE cx G sc false o) (evE cx G sc false i) (evE cx G sc false e) else sBad
  | .For tg it body [] _ => if notSet it then sFor (evI cx G sc false (isTup tg) it (evE cx G sc false it)) (evG cx G sc false tg) (evSs sc body) else sBad
  | .While t body [] _ => whileN (evT cx G sc false t (evE cx G sc false t)) (evSs sc body) G.W
  | .Raise (some (.Call (.Name x _) [.Constant (.str _) _ _] [] _)) none _ => if gloB sc x then (match cx.tab.lookup x with
    | some (.exc c) => sRaise c
    | _ => sBad) else sBad
  | .Try body (h :: hs) [] [] _ => (match evHs cx sc (h :: hs) with
    | some l => sTry G (evSs sc body) l
    | none => sBad)
  | _ => sBad
def evSs (sc : Scope) : List Stmt → Stm
  | [] => sPass
  | s :: r => sSeq (evS sc s) (evSs sc r)
end
end
end En
end

section
set_option maxRecDepth 100000
set_option maxHeartbeats 2000000
/-! EI: the parts' soundness. -/
namespace En
open PySem PySem.Spec PyProof.Rows L2
section
variable {X : Cx} {a : Ad} {W : L2.St → XK} {pos : Pos}

theorem s_var {x : Str} {i : Nat} {p : Pos} (hN : X.N[i]? = some x) (hv : Vis X.env.scope x) (h1 : (x == ("__debug__" : Str)) = false) (h2 : (x == ("__classdict__" : Str)) = false) : PE X (.Name x p) (tE X.K a W (xVar i)) := by
  refine (L2.pe_var hN hv h1 h2).imp fun σ H Q ⟨ρ, η, env, rel, er, h⟩ => ?_
  unfold xVar at h
  split at h
  · rename_i d q
    obtain ⟨v, e1, e2⟩ := er.at_ i d q
    exact ⟨v, e1, Out.okv rel h e2⟩
  · exact h.elim
theorem s_cst {x : Str} {u : Value} {v : V} {d : D} {p : Pos} (hg : Gl X x) (hm : X.mg x = some u) (r : RelV v u) (hr : ∀ ρ H, Rep X.K ρ H d v) (h1 : (x == ("__debug__" : Str)) = false) : PE X (.Name x p) (tE X.K a W (xC d)) :=
  (L2.pe_glob hg hm r h1).imp fun σ H Q ⟨ρ, η, env, rel, er, h⟩ => Out.okv rel h (hr ρ H)
theorem s_int {i : Int} {j : Nat} : PE X (.Constant (.int i) j pos) (tE X.K a W (xC (.int i))) := L2.pe_int.imp fun σ H Q ⟨ρ, η, env, rel, er, h⟩ => Out.okv rel h (.int i)
theorem s_bl {i : Bool} {j : Nat} : PE X (.Constant (.bool i) j pos) (tE X.K a W (xC (.bl i))) := L2.pe_bl.imp fun σ H Q ⟨ρ, η, env, rel, er, h⟩ => Out.okv rel h (.bl i)
theorem s_str {i : Str} {j : Nat} : PE X (.Constant (.str i) j pos) (tE X.K a W (xC (.str i))) := L2.pe_str.imp fun σ H Q ⟨ρ, η, env, rel, er, h⟩ => Out.okv rel h (.str i)
theorem s_non {j : Nat} : PE X (.Constant .none j pos) (tE X.K a W (xC .non)) := L2.pe_non.imp fun σ H Q ⟨ρ, η, env, rel, er, h⟩ => Out.okv rel h .non
theorem s_bad {e : Expr} : PE X e (tE X.K a W xBad) := ⟨fun pins s σ H Q I ⟨ρ, η, env, rel, er, h⟩ => h.elim⟩
theorem s_badL {es : List Expr} : PA X es (tL X.K a W fun _ _ => .bad) := ⟨fun pos pins s σ H Q I ⟨ρ, η, env, rel, er, h⟩ => h.elim⟩
theorem s_badT {e : Expr} : PT X e (tT X.K a W fun _ _ => .bad) := ⟨fun pins s σ H Q I ⟨ρ, η, env, rel, er, h⟩ => h.elim⟩
theorem s_nil : PA X [] (tL X.K a W xNil) := L2.pa_nil.imp fun σ H Q ⟨ρ, η, env, rel, er, h⟩ => h ρ H [] (Ext.refl ρ H) rel .nil
theorem star_of {e : Expr} {es : List Expr} {env : Env} (h : noStar e = true) : starEach (e :: es) env = (false, eval e env) :: starEach es env := by
  cases e <;> first | rfl | cases h
theorem s_cons {e : Expr} {es : List Expr} {m : Exp} {l : Lst} (hs : noStar e = true) (h1 : PE X e (tE X.K a W m)) (h2 : PA X es (tL X.K a W l)) : PA X (e :: es) (tL X.K a W (xCons m l)) := by
  refine (L2.pa_cons h1 h2 (star_of hs)).imp fun σ H Q ⟨ρ, η, env, rel, er, h⟩ => ?_
  refine tE.bindL rel er h fun d η1 ρ1 H1 v e1 r1 er1 p1 h1 => ?_
  refine tL.bindL r1 er1 h1 fun ds η2 ρ2 H2 vs e2 r2 er2 p2 h2 => ?_
  exact h2 ρ2 H2 _ (Ext.refl _ _) r2 (.cons (p1.mono e2) p2)
theorem s_tup {es : List Expr} {l : Lst} {k : Nat} (h : PA X es (tL X.K a W l)) : PE X (.Tuple es k pos) (tE X.K a W (xTup l)) := by
  refine (L2.pe_tup h).imp fun σ H Q ⟨ρ, η, env, rel, er, h⟩ => ?_
  refine tL.bind rel er h fun ds η1 ρ1 H1 vs e1 r1 er1 p1 h1 => ?_
  obtain ⟨c, h1⟩ := if_bad h1
  exact ⟨by rw [← p1.length]; exact c, fun z nz => Out.newt r1 h1 p1 z nz⟩
theorem s_lst {es : List Expr} {l : Lst} (h : PA X es (tL X.K a W l)) : PE X (.List es pos) (tE X.K a W (xLst l)) := by
  refine (L2.pe_lst h).imp fun σ H Q ⟨ρ, η, env, rel, er, h⟩ => ?_
  refine tL.bind rel er h fun ds η1 ρ1 H1 vs e1 r1 er1 p1 h1 => ?_
  obtain ⟨c, h1⟩ := if_bad h1
  exact ⟨by rw [← p1.length]; exact c, fun z nz => Out.newl r1 h1 p1 z nz⟩
theorem s_dict : PE X (.Dict [] [] pos) (tE X.K a W xDictNew) := by
  refine L2.pe_dnewK.imp fun σ H Q ⟨ρ, η, env, rel, er, h⟩ p np => ?_
  have e := Ext.alloc (o := .dK []) np (rel.free np)
  exact h _ _ _ e (rel.alloc np ⟨[], upd_same, rfl, .nil⟩) (rep_last rel)
theorem s_bin {l r : Expr} {o : Operator} {m n : Exp} (hl : PE X l (tE X.K a W m)) (hr : PE X r (tE X.K a W n)) : PE X (.BinOp l o r pos) (tE X.K a W (x2 (binF o) m n)) := by
  obtain ⟨t, h1, h2⟩ := op_bin (X := X) (a := a) o
  exact (L2.pe_op h1 hl hr).imp fun σ H Q h => tOp_of h2 h
theorem s_neg {e : Expr} {m : Exp} (h : PE X e (tE X.K a W m)) : PE X (.UnaryOp .USub e pos) (tE X.K a W (x1 negD m)) := (L2.pe_un (un_neg' (a := a)).1 h).imp fun σ H Q h => tUn_of un_neg'.2 h
theorem behind_of {o : CmpOp} {e : Expr} (h : notSet e = true) : behindInMarks o e = false := by cases e <;> first | rfl | cases h
theorem s_cmp {l r : Expr} {o : CmpOp} {m n : Exp} (hu : X.A.units + 65 < cLine) (hs : notSet r = true) (hl : PE X l (tE X.K a W m)) (hr : PE X r (tE X.K a W n)) : PE X (.Compare l [o] [r] pos) (tE X.K a W (x2 (cmpF o) m n)) := by
  obtain ⟨t, h1, h2⟩ := op_cmp (X := X) (a := a) o hu
  exact (L2.pe_cmpR h1 hl hr (behind_of hs)).imp fun σ H Q h => tOp_of h2 h
theorem chain_imp {m n k : Exp} {f g : D → D → Hv → R D} {t t' : R2} (h2 : Op2 X.K a f t) (h2' : Op2 X.K a g t') {σ : L2.St} {H : Hp} {Q : VK} (h : tE X.K a W (xChain f g m n k) σ H Q) : tChain t t' (tE X.K a W m) (tE X.K a W n) (tE X.K a W k) σ H Q := by
  obtain ⟨ρ, η, env, rel, er, h⟩ := h
  refine tE.bind rel er h fun x η1 ρ1 H1 v e1 r1 er1 p1 h1 => ?_
  refine tE.bind r1 er1 h1 fun y η2 ρ2 H2 u e2 r2 er2 p2 h2a => ?_
  have key : ∀ (z : V) (H3 : Hp), (∃ ρ3 η3 c, Ext ρ2 H2 ρ3 H3 ∧ Rel X.K a.C ρ3 η3 H3 ∧ Rep X.K ρ3 H3 c z ∧ Out X.K a W σ ρ3 H3 (match c with
      | .bl true => (k env η3).bind fun z η4 => g y z η4
      | .bl false => .ok (.bl false) η3
      | _ => .bad) Q) → ∃ b, z = .bl b ∧ (if b = true then tE X.K a W k σ H3 fun w' H4 => t' u w' H4 Q else Q (.bl false) H3) := fun z H3 ⟨ρ3, η3, c, e3, r3, p3, h3⟩ => by
    cases c with
    | bl b =>
      refine ⟨b, p3.blv, ?_⟩
      cases b with
      | true =>
        rw [if_pos rfl]
        refine tE.bind r3 ((er2.mono e3)) h3 fun w η4 ρ4 H4 q e4 r4 er4 p4 h4 => ?_
        exact h2' W σ ρ4 η4 H4 y w u q Q r4 ((p2.mono e3).mono e4) p4 h4
      | false =>
        rw [if_neg (by decide)]
        exact Out.okv r3 h3 (.bl _)
    | _ => exact h3.elim
  refine h2 W σ ρ2 η2 H2 x y v u _ r2 (p1.mono e2) p2 ?_
  cases q : f x y η2 with
  | ok c η3 =>
    rw [q] at h2a
    exact fun ρ3 H3 z e3 r3 p3 => key z H3 ⟨ρ3, η3, c, e3, r3, p3, Out.ext e3 h2a⟩
  | exc c η3 =>
    rw [q] at h2a
    exact fun ρ3 H3 e3 r3 => h2a ρ3 H3 e3 r3
  | bad =>
    rw [q] at h2a
    exact h2a.elim
theorem s_chain {l r s : Expr} {o o' : CmpOp} {m n k : Exp} (hu : X.A.units + 65 < cLine) (hr1 : notSet r = true) (hs1 : notSet s = true) (hl : PE X l (tE X.K a W m)) (hr : PE X r (tE X.K a W n)) (hs : PE X s (tE X.K a W k)) :
    PE X (.Compare l [o, o'] [r, s] pos) (tE X.K a W (xChain (cmpF o) (cmpF o') m n k)) := by
  obtain ⟨t, h1, h2⟩ := op_cmp (X := X) (a := a) o hu
  obtain ⟨t', h1', h2'⟩ := op_cmp (X := X) (a := a) o' hu
  exact (L2.pe_chain h1 h1' hl hr hs (by simp only [lastMarks]; exact behind_of hs1)).imp fun σ H Q h => chain_imp h2 h2' h
theorem s_if {t m n : Expr} {tt : Tst} {mm nn : Exp} (ht : PT X t (tT X.K a W tt)) (hm : PE X m (tE X.K a W mm)) (hn : PE X n (tE X.K a W nn)) : PE X (.IfExp t m n pos) (tE X.K a W (xIf tt mm nn)) := by
  refine (L2.pe_ifExp ht hm hn).imp fun σ H Q ⟨ρ, η, env, rel, er, h⟩ => ?_
  refine tT.bind rel er h fun b η1 ρ1 H1 e1 r1 er1 h1 => ?_
  cases b with
  | true => rw [if_pos rfl] at h1 ⊢; exact ⟨ρ1, η1, env, r1, er1, h1⟩
  | false => rw [if_neg (by decide)] at h1 ⊢; exact ⟨ρ1, η1, env, r1, er1, h1⟩
theorem s_not {e : Expr} {m : Exp} (h : PE X e (tE X.K a W m)) : PE X (.UnaryOp .Not e pos) (tE X.K a W (xNot m)) := by
  refine (L2.pe_notT h).imp fun σ H Q ⟨ρ, η, env, rel, er, h⟩ => ?_
  refine tE.bind rel er h fun x η1 ρ1 H1 v e1 r1 er1 p1 h1 => ?_
  split at h1
  · rename_i b q
    exact ⟨b, tru_of r1 p1 q, Out.okv r1 h1 (.bl _)⟩
  · exact h1.elim
theorem s_and {e b : Expr} {rest : List Expr} {m n : Exp} (h : PE X e (tE X.K a W m)) (hb : PE X (.BoolOp .And (b :: rest) pos) (tE X.K a W n)) : PE X (.BoolOp .And (e :: b :: rest) pos) (tE X.K a W (xAnd m n)) := by
  refine (L2.pe_andT h hb).imp fun σ H Q ⟨ρ, η, env, rel, er, h⟩ => ?_
  refine tE.bind rel er h fun x η1 ρ1 H1 v e1 r1 er1 p1 h1 => ?_
  split at h1
  · rename_i c q
    refine ⟨c, tru_of r1 p1 q, ?_⟩
    cases c with
    | true => rw [if_pos rfl] at h1 ⊢; exact ⟨ρ1, η1, env, r1, er1, h1⟩
    | false => rw [if_neg (by decide)] at h1 ⊢; exact Out.okv r1 h1 p1
  · exact h1.elim
theorem s_or {e b : Expr} {rest : List Expr} {m n : Exp} (h : PE X e (tE X.K a W m)) (hb : PE X (.BoolOp .Or (b :: rest) pos) (tE X.K a W n)) : PE X (.BoolOp .Or (e :: b :: rest) pos) (tE X.K a W (xOr m n)) := by
  refine (L2.pe_orT h hb).imp fun σ H Q ⟨ρ, η, env, rel, er, h⟩ => ?_
  refine tE.bind rel er h fun x η1 ρ1 H1 v e1 r1 er1 p1 h1 => ?_
  split at h1
  · rename_i c q
    refine ⟨c, tru_of r1 p1 q, ?_⟩
    cases c with
    | true => rw [if_pos rfl] at h1 ⊢; exact Out.okv r1 h1 p1
    | false => rw [if_neg (by decide)] at h1 ⊢; exact ⟨ρ1, η1, env, r1, er1, h1⟩
  · exact h1.elim
/-! ### tests -/
theorem s_tru {e : Expr} {m : Exp} (he : ∀ whole, isTrue e X.env whole = (do let v ← whole; standAt e.pos; holding [v] (truthy v))) (h : PE X e (tE X.K a W m)) : PT X e (tT X.K a W (xTru m)) := by
  refine (L2.pt_truth h he).imp fun σ H Q ⟨ρ, η, env, rel, er, h⟩ => ?_
  refine tE.bindB rel er h fun x η1 ρ1 H1 v e1 r1 er1 p1 h1 => ?_
  split at h1
  · rename_i b q
    exact ⟨b, tru_of r1 p1 q, h1 ρ1 H1 (Ext.refl _ _) r1⟩
  · exact h1.elim
theorem PT.ofB {e : Expr} {m : Exp} (h : PT X e (tTest (tE X.K a W m))) : PT X e (tT X.K a W (xBool m)) := by
  refine h.imp fun σ H Q ⟨ρ, η, env, rel, er, h⟩ => ?_
  refine tE.bindB rel er h fun x η1 ρ1 H1 v e1 r1 er1 p1 h1 => ?_
  cases x with
  | bl b => exact ⟨b, p1.blv, h1 ρ1 H1 (Ext.refl _ _) r1⟩
  | _ => exact h1.elim
theorem s_notT {e : Expr} {m : Tst} (h : PT X e (tT X.K a W m)) : PT X (.UnaryOp .Not e pos) (tT X.K a W (xNotT m)) := by
  refine (L2.pt_not h).imp fun σ H Q ⟨ρ, η, env, rel, er, h⟩ => ?_
  refine tT.bindB rel er h fun b η1 ρ1 H1 e1 r1 er1 h1 => ?_
  exact h1 ρ1 H1 (Ext.refl _ _) r1
theorem s_cmpT {l r : Expr} {o : CmpOp} {m n : Exp} (hu : X.A.units + 65 < cLine) (hs : notSet r = true) (hl : PE X l (tE X.K a W m)) (hr : PE X r (tE X.K a W n)) : PT X (.Compare l [o] [r] pos) (tT X.K a W (xBool (x2 (cmpF o) m n))) := by
  obtain ⟨t, h1, h2⟩ := op_cmp (X := X) (a := a) o hu
  exact PT.ofB ((L2.pt_cmpR h1 hl hr (behind_of hs)).imp fun σ H Q h => tOp_of h2 h)
theorem s_chainT {l r s : Expr} {o o' : CmpOp} {m n k : Exp} (hu : X.A.units + 65 < cLine) (hr1 : notSet r = true) (hs1 : notSet s = true) (hl : PE X l (tE X.K a W m)) (hr : PE X r (tE X.K a W n)) (hs : PE X s (tE X.K a W k)) :
    PT X (.Compare l [o, o'] [r, s] pos) (tT X.K a W (xBool (xChain (cmpF o) (cmpF o') m n k))) := by
  obtain ⟨t, h1, h2⟩ := op_cmp (X := X) (a := a) o hu
  obtain ⟨t', h1', h2'⟩ := op_cmp (X := X) (a := a) o' hu
  exact PT.ofB ((L2.pt_chain h1 h1' hl hr hs (by simp only [lastMarks]; exact behind_of hs1)).imp fun σ H Q h => chain_imp h2 h2' h)
theorem s_and0 {e : Expr} {t : TE} (h : PE X e t) : PE X (.BoolOp .And [e] pos) t := ⟨fun pins s σ H Q I q => h.run pins s σ H Q I q⟩
theorem s_or0 {e : Expr} {t : TE} (h : PE X e t) : PE X (.BoolOp .Or [e] pos) t := ⟨fun pins s σ H Q I q => h.run pins s σ H Q I q⟩
end
end En
end

section
set_option maxRecDepth 100000
set_option maxHeartbeats 2000000
/-! EJ: tests joined, fields, subscripts, slices; calls. -/
namespace En
open PySem PySem.Spec PyProof.Rows L2
section
variable {X : Cx} {a : Ad} {W : L2.St → XK} {pos : Pos}
theorem PW.imp {e : Expr} {t t' : TT} (h : PW X e t) (i : ∀ σ H Q, t' σ H Q → t σ H Q) : PW X e t' := ⟨fun w pins s σ H Q I q => h.run w pins s σ H Q I (i σ H Q q)⟩
theorem s_and1 {e : Expr} {m : Tst} (h : PT X e (tT X.K a W m)) : PW X (.BoolOp .And [e] pos) (tT X.K a W m) := pw_and1 h
theorem s_or1 {e : Expr} {m : Tst} (h : PT X e (tT X.K a W m)) : PW X (.BoolOp .Or [e] pos) (tT X.K a W m) := pw_or1 h
theorem s_andT {e b : Expr} {rest : List Expr} {m n : Tst} (h : PT X e (tT X.K a W m)) (hb : PW X (.BoolOp .And (b :: rest) pos) (tT X.K a W n)) : PW X (.BoolOp .And (e :: b :: rest) pos) (tT X.K a W (xAndT m n)) := by
  refine PW.imp (pw_and h hb) fun σ H Q ⟨ρ, η, env, rel, er, h⟩ => ?_
  refine tT.bindB rel er h fun b η1 ρ1 H1 e1 r1 er1 h1 => ?_
  cases b with
  | true => rw [if_pos rfl] at h1 ⊢; exact ⟨ρ1, η1, env, r1, er1, h1⟩
  | false => rw [if_neg (by decide)] at h1 ⊢; exact h1 ρ1 H1 (Ext.refl _ _) r1
theorem s_orT {e b : Expr} {rest : List Expr} {m n : Tst} (h : PT X e (tT X.K a W m)) (hb : PW X (.BoolOp .Or (b :: rest) pos) (tT X.K a W n)) : PW X (.BoolOp .Or (e :: b :: rest) pos) (tT X.K a W (xOrT m n)) := by
  refine PW.imp (pw_or h hb) fun σ H Q ⟨ρ, η, env, rel, er, h⟩ => ?_
  refine tT.bindB rel er h fun b η1 ρ1 H1 e1 r1 er1 h1 => ?_
  cases b with
  | true => rw [if_pos rfl] at h1 ⊢; exact h1 ρ1 H1 (Ext.refl _ _) r1
  | false => rw [if_neg (by decide)] at h1 ⊢; exact ⟨ρ1, η1, env, r1, er1, h1⟩

/-! ### fields -/
theorem base_of {o : Expr} {f : Str} {env : Env} (h : notSup o = true) : attributeBase o f env (eval o env) = eval o env := by
  cases o with
  | Call g as ks p =>
    cases g with
    | Name x q =>
      cases as with
      | nil =>
        cases ks with
        | nil => cases h
        | cons k ks => rfl
      | cons b bs => rfl
    | _ => rfl
  | _ => rfl
theorem lookup_of {K : PySem.W.Frag} {ρ : List Addr} {H : Hp} : ∀ {fs : List (Str × D)} {fv : List (Str × V)} (f : Str), fs.map (·.1) = fv.map (·.1) → Reps K ρ H (fs.map (·.2)) (fv.map (·.2)) →
    (∀ d, fs.lookup f = some d → ∃ v, fv.lookup f = some v ∧ Rep K ρ H d v) ∧ (fs.lookup f = none → fv.lookup f = none)
  | [], [], f, _, _ => ⟨fun d h => (by cases h), fun _ => rfl⟩
  | [], _ :: _, f, e, _ => by simp at e
  | _ :: _, [], f, e, _ => by simp at e
  | (k, d1) :: r, (k2, v1) :: r2, f, e, rp => by
    rw [List.map_cons, List.map_cons] at e
    obtain ⟨e1, e2⟩ := List.cons.inj e
    have e1 : k = k2 := e1
    subst e1
    cases rp with
    | cons h1 h2 =>
      have ih := lookup_of f e2 h2
      rw [List.lookup_cons, List.lookup_cons]
      cases q : f == k with
      | true => exact ⟨fun d h => by cases h; exact ⟨v1, rfl, h1⟩, fun h => by cases h⟩
      | false => exact ih
theorem s_fld {G : Gst} {o : Expr} {f : Str} {m : Exp} (hs : notSup o = true) (hn : ∀ c, G.noat c f = true → Cls X.K (a.C c) ∧ NoAttr X.K (a.C c) f) (h : PE X o (tE X.K a W m)) : PE X (.Attribute o f pos) (tE X.K a W (x1 (fldOf G f) m)) := by
  refine (pe_fld h (base_of hs)).imp fun σ H Q ⟨ρ, η, env, rel, er, h⟩ => ?_
  refine tE.bind rel er h fun d η1 ρ1 H1 v e1 r1 er1 p1 h1 => ?_
  unfold fldOf at h1
  split at h1
  · rename_i i
    split at h1
    · rename_i c fs q
      split at h1
      · rename_i hc
        split at h1
        · rename_i x q2
          obtain ⟨p, dx, fv, rfl, _, h2, h3, h4⟩ := r1.ins q p1
          obtain ⟨v2, h5, h6⟩ := (lookup_of f h3 h4).1 x q2
          exact ⟨p, _, dx, fv, v2, rfl, h2, (hn c hc).1, (hn c hc).2, h5, Out.okv r1 h1 h6⟩
        · exact h1.elim
      · exact h1.elim
    · exact h1.elim
  · exact h1.elim
/-! ### items, slices -/
theorem plain_of {i : Expr} (h : noSlice i = true) (o v : Value) : subscripted i false o v = operate [o, v] (getItem o v) := by
  unfold subscripted
  cases i <;> first | rfl | cases h
theorem keyV {K : PySem.W.Frag} {ρ : List Addr} {H : Hp} {d : D} {v : V} {k : Key} (h : keyD d = some k) (r : Rep K ρ H d v) : v = kV k := by
  cases d with
  | int i => cases h; rw [r.intv]; rfl
  | str s => cases h; rw [r.strv]; rfl
  | _ => cases h
theorem dsub_tail {prog : Program} {w : World} {A : Around} {E : Value → Shared → Prop} {s : Shared} {value slice : Expr} {o i : Value} {T id : String} {Q : Value → Shared → Prop} (ty : s.TypeIs o T) (look : typeLookup (.type T) "__getitem__" = pure (some (.builtin id)))
    (pl : subscripted slice false o i = operate [o, i] (getItem o i)) (h : wpAny (model prog w) A (getItem o i) Q E s) : wpAny (model prog w) A (subscriptTail value slice o i) Q E s := by
  have both : wpAny (model prog w) A (subscripted slice false o i) (fun r s' => wpAny (model prog w) A (do letTemporaryGo value o r; pure r) Q E s') E s := by
    rw [pl]
    exact wpAny_operating (thn h fun r s' q => wpAny_bind (wpAny_letTemporaryGo (wpAny_pure q)))
  unfold subscriptTail
  refine wpAny_bind ?_
  rw [getitemInPython_of_ne ty.not_modules]
  refine wpAny_bind (wpAny_specialOf ty look ?_)
  first
    | exact wpAny_pure (wpAny_bind both)
    | exact wpAny_bind (wpAny_pure (wpAny_bind both))
    | exact wpAny_bind both
theorem s_ix {o i : Expr} {m n : Exp} (hu : X.A.units + 65 < cLine) (hs : noSlice i = true) (ho : PE X o (tE X.K a W m)) (hi : PE X i (tE X.K a W n)) : PE X (.Subscript o i pos) (tE X.K a W (xIx m n)) := by
  obtain ⟨r, hr, hop⟩ := ix_seqs (X := X) (a := a)
  have hsl := plain_of hs
  refine ⟨fun pins s σ H Q I ⟨ρ, η, env, rel, er, h⟩ => ?_⟩
  refine Subscript_ (binT (R := fun x y H2 => ∃ ρ2 η2 d e, Rel X.K a.C ρ2 η2 H2 ∧ Rep X.K ρ2 H2 d x ∧ Rep X.K ρ2 H2 e y ∧ Out X.K a W σ ρ2 H2 (match dctOf η2 d with
    | some kvs => (match (keyD e).bind (getK kvs) with
      | some x => .ok x η2
      | none => .bad)
    | none => sixD d e η2) Q) ho hi I ?_ ?_)
  · refine tE.bind rel er h fun d η1 ρ1 H1 v e1 r1 er1 p1 h1 => ?_
    refine tE.bind r1 er1 h1 fun e η2 ρ2 H2 u e2 r2 er2 p2 h2 => ?_
    exact ⟨ρ2, η2, d, e, r2, p1.mono e2, p2, h2⟩
  · intro v u s2 x y H2 I2 rx ry ⟨ρ2, η2, d, e, r2, p1, p2, h2⟩
    cases qd : dctOf η2 d with
    | none =>
      simp only [qd] at h2
      exact hr o i pins s2 σ H2 x y v u Q I2 rx ry (hop W σ ρ2 η2 H2 d e x y Q r2 p1 p2 h2) (hsl v u)
    | some kvs =>
      simp only [qd] at h2
      obtain ⟨_, p, kv, _, _, _, rfl, h3, h4, h5⟩ := r2.dctOf qd p1
      cases qk : keyD e with
      | none => simp only [qk] at h2; exact h2.elim
      | some k =>
        simp only [qk, Option.bind_some] at h2
        cases qg : getK kvs k with
        | none => simp only [qg] at h2; exact h2.elim
        | some z =>
          simp only [qg] at h2
          obtain ⟨w, h6, h7⟩ := (valV_of k h4 h5).1 z qg
          cases rx
          have hy := keyV qk p2
          subst hy
          have g : DGet H2 p (kV k) (some w) := .inl ⟨kv, k, .inl h3, rfl, h6.symm⟩
          exact dsub_tail (dict_typeIs I2 g) PySem.F.slot_dict_getitem.lookup (hsl _ _) (d_getItem (by omega) I2 g ry fun w' s3 I3 rw' => ⟨w, H2, I3, rw', Out.okv r2 h2 h7⟩)
/-- a slice's part -/
def tO (K : PySem.W.Frag) (a : Ad) (W : L2.St → XK) (m : Opt) : TO := fun σ H Q => ∃ ρ η env, Rel K a.C ρ η H ∧ EnvR K ρ H env σ ∧ (match m env η with
  | .ok o η' => ∀ ρ' H', Ext ρ H ρ' H' → Rel K a.C ρ' η' H' → Q o H'
  | .exc c η' => ∀ ρ' H', Ext ρ H ρ' H' → Rel K a.C ρ' η' H' → W σ (.ref (a.X c)) none H'
  | .bad => False)
theorem PO.imp {e : Option Expr} {t t' : TO} (h : PO X e t) (i : ∀ σ H Q, t' σ H Q → t σ H Q) : PO X e t' := ⟨fun pins s σ H Q I q => h.run pins s σ H Q I (i σ H Q q)⟩
theorem s_no : PO X none (tO X.K a W xNoPart) := PO.imp po_none fun σ H Q ⟨ρ, η, env, rel, er, h⟩ => h ρ H (Ext.refl _ _) rel
theorem s_part {e : Expr} {m : Exp} (h : PE X e (tE X.K a W m)) : PO X (some e) (tO X.K a W (xPart m)) := by
  refine PO.imp (po_some h) fun σ H Q ⟨ρ, η, env, rel, er, h⟩ => ?_
  refine tE.thn rel er (fun d η1 q ρ1 H1 v e r er1 rp => ?_) (fun c η1 q ρ1 H1 e r => ?_) fun q => ?_
  · unfold xPart at h
    rw [q] at h
    cases d with
    | int i => exact ⟨i, rp.intv, h ρ1 H1 e r⟩
    | _ => exact h.elim
  · unfold xPart at h
    rw [q] at h
    exact h ρ1 H1 e r
  · unfold xPart at h
    rw [q] at h
    exact h
theorem tO.bind {m : Opt} {k : Option Int → Hv → R D} {env : Ev} {η : Hv} {ρ : List Addr} {σ : L2.St} {H : Hp} {Q : VK} {R' : Option Int → Hp → Prop} (rel : Rel X.K a.C ρ η H) (er : EnvR X.K ρ H env σ) (h : Out X.K a W σ ρ H ((m env η).bind k) Q)
    (hk : ∀ o η1 ρ1 H1, Ext ρ H ρ1 H1 → Rel X.K a.C ρ1 η1 H1 → EnvR X.K ρ1 H1 env σ → Out X.K a W σ ρ1 H1 (k o η1) Q → R' o H1) : tO X.K a W m σ H R' := by
  refine ⟨ρ, η, env, rel, er, ?_⟩
  cases q : m env η with
  | ok d η1 =>
    rw [q] at h
    exact fun ρ1 H1 e r => hk d η1 ρ1 H1 e r (er.mono e) (Out.ext e h)
  | exc c η1 =>
    rw [q] at h
    exact fun ρ1 H1 e r => h ρ1 H1 e r
  | bad =>
    rw [q] at h
    exact h
theorem s_slc {o : Expr} {lo hi : Option Expr} {p2 : Pos} {m : Exp} {ml mh : Opt} (ho : PE X o (tE X.K a W m)) (hl : PO X lo (tO X.K a W ml)) (hh : PO X hi (tO X.K a W mh)) : PE X (.Subscript o (.Slice lo hi none p2) pos) (tE X.K a W (xSlc m ml mh)) := by
  obtain ⟨r, hr, hop⟩ := slc_of (X := X) (a := a)
  refine (pe_slice hr ho hl hh).imp fun σ H Q ⟨ρ, η, env, rel, er, h⟩ => ?_
  refine tE.bind rel er h fun d η1 ρ1 H1 v e1 r1 er1 p1 h1 => ?_
  refine tO.bind r1 er1 h1 fun i η2 ρ2 H2 e2 r2 er2 h2 => ?_
  refine tO.bind r2 er2 h2 fun j η3 ρ3 H3 e3 r3 er3 h3 => ?_
  exact hop W σ ρ3 η3 H3 d v i j Q r3 (p1.mono (e2.trans e3)) h3
end
end En
end

section
set_option maxRecDepth 100000
set_option maxHeartbeats 2000000
/-! EK: calls of own functions, methods, classes; built-in functions. -/
namespace En
open PySem PySem.Spec PyProof.Rows L2

/-- where the top has laid the functions -/
structure Tb where
  fa : Nat → Addr
  fd : Nat → FuncData
  ps : Nat → List Str
/-- what a function promises -/
def spF (K : PySem.W.Frag) (a : Ad) (F : List D → Hv → R D) (n : Nat) : Sp := fun vs H Q E => ∃ ρ η ds, ds.length = n ∧ Rel K a.C ρ η H ∧ Reps K ρ H ds vs ∧ Out K a (fun _ => E) [] ρ H (F ds η) Q
theorem Out.ofW {K : PySem.W.Frag} {a : Ad} {W W' : L2.St → XK} {σ σ' : L2.St} {ρ : List Addr} {H : Hp} {r : R D} {Q : VK} (e : W σ = W' σ') (h : Out K a W σ ρ H r Q) : Out K a W' σ' ρ H r Q := by
  cases r with
  | ok d η => exact h
  | exc c η => exact fun ρ' H' x r => e ▸ h ρ' H' x r
  | bad => exact h
abbrev CF (X : Cx) : CXT := L2N.CX X.prog X.w
/-- what a def promises where no display is under way -/
structure FnG (P : Program) (w : World) (K : PySem.W.Frag) (mg : Str → Option Value) (base : Heap) (CX : CXT) (k : Nat) (f : Addr) (fd : FuncData) (ps : List Str) (sp : Sp) : Prop where
  go : ∀ {A : Around} {outer : List Env} {s : Shared} {H : Hp} {args : Args} {us : List Value} {vs : List V} {Q : VK} {E : XK}, Room k A → A.guards = some [] → Env0 P w K mg base A outer s H →
    BindsTo s fd args (ps.zip us) → Vals vs us → sp vs H Q E → codeAny (model P w) A (.call (.ref f) args) (CR CX outer P w H s Q E) s
abbrev FnAt (X : Cx) (a : Ad) (T : Tb) (G : Gst) (k f : Nat) : Prop := FnG X.prog X.w X.K X.mg X.base (CF X) k (T.fa f) (T.fd f) (T.ps f) (spF X.K a (G.F f) (T.ps f).length)
/-- defaults that fill up -/
def DflOk (K : PySem.W.Frag) (T : Tb) (f n : Nat) (ds : List D) : Prop := ∃ (its : List Value) (dv : List V), Vals dv its ∧ Binds K (T.fd f) (T.ps f) its ∧ (∀ ρ H, Reps K ρ H ds dv) ∧ n + ds.length = (T.ps f).length
def KwdOk (K : PySem.W.Frag) (T : Tb) (f n : Nat) (ks : List Str) (g : List D → List D → List D) : Prop := ∃ (gv : List Value → List Value → List Value) (gV : List V → List V → List V), KBn K (T.fd f) (T.ps f) n ks gv gV ∧ (∀ ds es : List D, ds.length = n → es.length = ks.length → (g ds es).length = (T.ps f).length) ∧
  ∀ ρ H ds vs es zs, ds.length = n → es.length = ks.length → Reps K ρ H ds vs → Reps K ρ H es zs → Reps K ρ H (g ds es) (gV vs zs)
/-- the tables hold -/
structure Sta (K : PySem.W.Frag) (a : Ad) (T : Tb) (G : Gst) : Prop where
  keep : ∀ f n ds, G.dfl f n = some ds → PySem.W.keepIn K (.ref (T.fa f)) = true ∧ DflOk K T f n ds
  kwd : ∀ f n ks g, G.kwd f n ks = some g → PySem.W.keepIn K (.ref (T.fa f)) = true ∧ KwdOk K T f n ks g
  meth : ∀ c m f, G.meth c m = some f → Cls K (a.C c) ∧ Meth K (a.C c) m (T.fa f)
  init : ∀ c f, G.init c = some f → Mk K (a.C c) (T.fa f)
  noat : ∀ c f, G.noat c f = true → Cls K (a.C c) ∧ NoAttr K (a.C c) f

section
variable {X : Cx} {a : Ad} {T : Tb} {G : Gst} {W : L2.St → XK} {k : Nat}
theorem passW (tk : L2N.Takes X (fun cls d σ H => W σ cls d H)) (σ : L2.St) : PassesAt (CF X) X σ (W σ) := L2N.passAt tk σ
/-- the callee runs -/
theorem runF {f : Nat} {σ : L2.St} {pins : List (Addr × Obj)} {s : Shared} {H : Hp} {Q : VK} {A : List Value} {kw : List (Str × Value)} {us : List Value} {ds : List D} {vs : List V} {ρ : List Addr} {η : Hv} (F : FnAt X a T G k f) (hr : Room k X.A) (hgd : X.A.guards = some []) (hx : PassesAt (CF X) X σ (W σ)) (I : Inv X pins σ H s)
    (hb : BindsTo s (T.fd f) ⟨A, kw⟩ ((T.ps f).zip us)) (r : Vals vs us) (rel : Rel X.K a.C ρ η H) (rp : Reps X.K ρ H ds vs) (hl : ds.length = (T.ps f).length) (h : Out X.K a W σ ρ H (G.F f ds η) Q) : wpAny (model X.prog X.w) X.A (call (.ref (T.fa f)) A kw) (EP X pins σ Q) X.xe s := by
  refine wpAny_call (codeAny_mono (F.go (us := us) (vs := vs) (E := W σ) hr hgd I.env0 hb r ⟨ρ, η, ds, hl, rel, rp, Out.ofW rfl h⟩) fun r s' hq => ?_)
  match r with
  | .error e => exact hx pins H s e s' I hq
  | .ok (.ret u) => exact I.after hq
  | .ok .next => exact hq.elim
  | .ok .brk => exact hq.elim
  | .ok .cont => exact hq.elim
theorem make_guards {A : Around} {args : Args} (h : A.guards = some []) : (A.under (.builtin "type.__call__" args)).guards = some [] := by
  show pushGuards (Code.builtin "type.__call__" args).guards A.guards = some []
  rw [h]
  rfl
/-- its __init__ runs -/
theorem runM {c f : Nat} {σ : L2.St} {pins : List (Addr × Obj)} {s : Shared} {H : Hp} {Q : VK} {A : List Value} {kw : List (Str × Value)} {ρ : List Addr} {η : Hv} {ds : List D} (M : Mk X.K (a.C c) (T.fa f)) (F : FnAt X a T G k f) (hr : Room (k + 1) X.A) (hgd : X.A.guards = some []) (hx : PassesAt (CF X) X σ (W σ)) (I : Inv X pins σ H s)
    (rel : Rel X.K a.C ρ η H) (hl : ds.length = (T.ps f).length)
    (hb : ∀ s2 x, X.K.In s2.heap → (∀ ρ' H', Ext ρ H ρ' H' → ρ'[η.length]? = some x → ∃ us vs, BindsTo s2 (T.fd f) ⟨.ref x :: A, kw⟩ ((T.ps f).zip us) ∧ Vals vs us ∧ Reps X.K ρ' H' ds vs))
    (h : Out X.K a W σ ρ H ((G.F f ds (η ++ [.ins c []])).bind fun d η2 => match d with
      | .non => .ok (.ref η.length) η2
      | _ => .bad) Q) : wpAny (model X.prog X.w) X.A (call (.ref (a.C c)) A kw) (EP X pins σ Q) X.xe s := by
  have I2 := Inv.made (C := a.C c) I
  have n1 : H s.heap.objs.size = none := I.hok.fresh (Nat.le_refl _)
  have n2 : H (s.heap.objs.size + 1) = none := I.hok.fresh (Nat.le_succ _)
  have ne : s.heap.objs.size ≠ s.heap.objs.size + 1 := Nat.ne_of_lt (Nat.lt_succ_self _)
  have n3 : (upd H s.heap.objs.size (.own (s.heap.objs.size + 1))) (s.heap.objs.size + 1) = none := by rw [upd_ne ne.symm]; exact n2
  have rel1 := rel.new (o := .own (s.heap.objs.size + 1)) n1
  have e1 := Ext.new (o := .own (s.heap.objs.size + 1)) rel n1
  have e2 := Ext.alloc (o := .ins (a.C c) s.heap.objs.size []) n3 (rel1.free n3)
  have rel2 := rel1.alloc (u := .ins (a.C c) s.heap.objs.size []) (o := .ins c []) n3 ⟨s.heap.objs.size, [], upd_same, rfl, .nil⟩
  have e := e1.trans e2
  have hi : (ρ ++ [s.heap.objs.size + 1])[η.length]? = some (s.heap.objs.size + 1) := by
    rw [List.getElem?_append_right (by rw [rel.len]; exact Nat.le_refl _), rel.len, Nat.sub_self]
    rfl
  obtain ⟨us, vs, hb1, r1, rp⟩ := hb { s with heap := (s.heap.push PySem.W.emptyDict).push (PySem.W.instObj (a.C c) s.heap.objs.size) } (s.heap.objs.size + 1) I2.kIn _ _ e hi
  refine wpAny_call (make_map (f := T.fa f) I.kIn M.makes M.init (beq_iff_eq.mp M.fn) (codeAny_mono (F.go (args := ⟨.ref (s.heap.objs.size + 1) :: A, kw⟩) (us := us) (vs := vs) (Q := fun v H3 => v = .non ∧ Q (.ref (s.heap.objs.size + 1)) H3) (E := W σ) (hr.make (a.C c) A kw) (make_guards hgd)
    (I2.env0.make (a.C c) A kw) hb1 r1 ⟨_, _, ds, hl, rel2, rp, ?_⟩) fun r s' hq => ?_))
  · cases q : G.F f ds (η ++ [.ins c []]) with
    | ok d η3 =>
      rw [q] at h
      cases d with
      | non =>
        refine fun ρ3 H3 v e3 r3 rp3 => ⟨?_, h ρ3 H3 _ (e.trans e3) r3 (.ref (e3.at hi))⟩
        cases rp3
        rfl
      | _ => exact h.elim
    | exc x η3 =>
      rw [q] at h
      exact fun ρ3 H3 e3 r3 => h ρ3 H3 (e.trans e3) r3
    | bad =>
      rw [q] at h
      exact h.elim
  · match r with
    | .error e => exact hx pins _ _ e s' I2 hq
    | .ok (.ret u) =>
      obtain ⟨v, H', I3, rv, ev, q3⟩ := I2.after hq
      subst ev
      exact ⟨rv, ⟨V.ref (s.heap.objs.size + 1), H', I3, rfl, q3⟩⟩
    | .ok .next => exact hq.elim
    | .ok .brk => exact hq.elim
    | .ok .cont => exact hq.elim

/-! ### arguments -/
theorem star_all {es : List Expr} {env : Env} (h : es.all noStar = true) : starEach es env = es.map fun e => (false, eval e env) := by
  induction es with
  | nil => rfl
  | cons e r ih =>
    rw [List.all_cons, Bool.and_eq_true] at h
    rw [star_of h.1, ih h.2]
    rfl
theorem back_plain (pos : Pos) : ∀ (l : List (Sem Value)), (backTo pos (l.map fun e => (false, e))).any (·.1) = false
  | [] => rfl
  | e :: r => by
    have ih := back_plain pos r
    first
      | exact ih
      | (show (false || _) = false; exact ih)
theorem no_star {es : List Expr} {env : Env} {pos : Pos} (h : es.all noStar = true) : (backTo pos (starEach es env)).any (·.1) = false := by
  rw [star_all h]
  have := back_plain pos (es.map fun e => eval e env)
  rw [List.map_map] at this
  exact this
theorem kw_all (pos : Pos) {env : Env} : ∀ {kws : List Keyword}, kws.all kwSome = true → (backToKw pos (keywordEach kws env)).all (·.1.isSome) = true ∧ (backToKw pos (keywordEach kws env)).filterMap (·.1) = kws.map kwName ∧ (backToKw pos (keywordEach kws env)).any (·.1.isNone) = false
  | [], _ => ⟨rfl, rfl, rfl⟩
  | ⟨some x, e, p⟩ :: r, h => by
    rw [List.all_cons, Bool.and_eq_true] at h
    obtain ⟨i1, i2, i3⟩ := kw_all pos (kws := r) h.2
    refine ⟨?_, ?_, ?_⟩
    · show (true && _) = true
      exact i1
    · show x :: _ = x :: _
      exact congrArg _ i2
    · show (false || _) = false
      exact i3
  | ⟨none, e, p⟩ :: r, h => by
    rw [List.all_cons, Bool.and_eq_true] at h
    cases h.1
theorem star_any {es : List Expr} {env : Env} {pos : Pos} (h : es.all noStar = true) : (backTo pos (starEach es env)).any (·.1) = false := no_star h
/-- arguments and keywords, then the call -/
theorem call_any {f : Value} {first : List Value} {args : List Expr} {kws : List Keyword} {pos : Pos} {ta tk : TA} {σ : L2.St} {pins : List (Addr × Obj)} {s : Shared} {H : Hp} {Q : Value → Shared → Prop} {R' : List V → List V → Hp → Prop} (hk : PySem.W.keepIn X.K f = true) (hst : args.all noStar = true)
    (hall : kws.all kwSome = true) (ha : PA X args ta) (hkw : PK X kws tk) (I : Inv X pins σ H s) (h : ta σ H fun vs H1 => tk σ H1 fun zs H2 => R' vs zs H2)
    (fin : ∀ us ws vs zs H2 s2, Inv X pins σ H2 s2 → Vals vs us → Vals zs ws → R' vs zs H2 → wpAny (model X.prog X.w) X.A (call f (first ++ us) ((kws.map kwName).zip ws)) Q X.xe s2) :
    wpAny (model X.prog X.w) X.A (callWith pos f first (backTo pos (starEach args X.env)) (backToKw pos (keywordEach kws X.env))) Q X.xe s := by
  obtain ⟨k1, k2, k3⟩ := kw_all pos (env := X.env) hall
  have step : wpAny (model X.prog X.w) X.A (spliced (backTo pos (starEach args X.env))) (fun us s1 => wpAny (model X.prog X.w) X.A (evalAll ((backToKw pos (keywordEach kws X.env)).map (·.2)))
      (fun ws s2 => X.K.In s2.heap ∧ wpAny (model X.prog X.w) X.A (call f (first ++ us) ((kws.map kwName).zip ws)) Q X.xe s2) X.xe s1) X.xe s := by
    refine thn (ha.run pos pins s σ H _ I h) fun us s1 ⟨vs, H1, I1, r, q⟩ => ?_
    refine thn (hkw.run pos pins s1 σ H1 _ I1 q) fun ws s2 ⟨zs, H2, I2, rz, q2⟩ => ?_
    exact ⟨I2.kIn, fin us ws vs zs H2 s2 I2 r rz q2⟩
  cases args with
  | nil =>
    cases kws with
    | nil => exact fun Γ p hΓ => PySem.W.callWith_K0 I.kIn hk (((step Γ p hΓ : wpAny (model X.prog X.w) X.A (pure []) _ X.xe s) Γ p hΓ).2) Γ p hΓ
    | cons kw r => exact fun Γ p hΓ => PySem.W.callWith_KW0 I.kIn hk k1 (by rw [k2]; exact step Γ p hΓ) (by show (false || _) = false; exact k3) Γ p hΓ
  | cons e es =>
    have e1 : starEach (e :: es) X.env = (false, eval e X.env) :: starEach es X.env := star_of (by rw [List.all_cons, Bool.and_eq_true] at hst; exact hst.1)
    have e2 : (backTo pos (starEach (e :: es) X.env)).any (·.1) = false := star_any hst
    have e3 : (backTo pos (starEach es X.env)).any (·.1) = false := star_any (by rw [List.all_cons, Bool.and_eq_true] at hst; exact hst.2)
    cases kws with
    | nil =>
      refine PySem.W.callWith_K (h₀ := X.base) I.ok.mod.kin hk (thn (ha.run pos pins s σ H _ I h) fun us s1 ⟨vs, H1, I1, r, q⟩ => ⟨I1.kIn, fun Γ p hΓ => ?_⟩) e1 e3
      have q1 : wpAny (model X.prog X.w) X.A (pure []) (AP X pins σ (R' vs)) X.xe s1 := hkw.run pos pins s1 σ H1 _ I1 q
      obtain ⟨zs, H2, I2, rz, q2⟩ : AP X pins σ (R' vs) [] s1 := q1 Γ p hΓ
      exact fin us [] vs zs H2 s1 I2 r rz q2 Γ p hΓ
    | cons kw r => exact PySem.W.callWith_KW (h₀ := X.base) I.ok.mod.kin hk k1 (by rw [k2]; exact step) (by rw [e2, k3]; rfl) e1
theorem PK.imp {kws : List Keyword} {t t' : TA} (h : PK X kws t) (i : ∀ σ H Q, t' σ H Q → t σ H Q) : PK X kws t' := ⟨fun pos pins s σ H Q I q => h.run pos pins s σ H Q I (i σ H Q q)⟩
theorem s_knil : PK X [] (tL X.K a W xNil) := PK.imp pk_nil fun σ H Q ⟨ρ, η, env, rel, er, h⟩ => h ρ H [] (Ext.refl ρ H) rel .nil
theorem s_kcons {nm : Option Str} {kp : Pos} {e : Expr} {kws : List Keyword} {m : Exp} {l : Lst} (h1 : PE X e (tE X.K a W m)) (h2 : PK X kws (tL X.K a W l)) : PK X (⟨nm, e, kp⟩ :: kws) (tL X.K a W (xCons m l)) := by
  refine PK.imp (pk_cons h1 h2) fun σ H Q ⟨ρ, η, env, rel, er, h⟩ => ?_
  refine tE.bindL rel er h fun d η1 ρ1 H1 v e1 r1 er1 p1 h1 => ?_
  refine tL.bindL r1 er1 h1 fun ds η2 ρ2 H2 vs e2 r2 er2 p2 h2 => ?_
  exact h2 ρ2 H2 _ (Ext.refl _ _) r2 (.cons (p1.mono e2) p2)
/-- both lists, and what is done with them -/
theorem tLL.bind {m n : Lst} {kk : List D → List D → Hv → R D} {env : Ev} {η : Hv} {σ : L2.St} {ρ : List Addr} {H : Hp} {Q : VK} (rel : Rel X.K a.C ρ η H) (er : EnvR X.K ρ H env σ) (h : Out X.K a W σ ρ H ((m env η).bind fun ds η1 => (n env η1).bind fun es η2 => kk ds es η2) Q) :
    tL X.K a W m σ H fun vs H1 => tL X.K a W n σ H1 fun zs H2 => ∃ ds es η2 ρ2, Ext ρ H ρ2 H2 ∧ Rel X.K a.C ρ2 η2 H2 ∧ Reps X.K ρ2 H2 ds vs ∧ Reps X.K ρ2 H2 es zs ∧ Out X.K a W σ ρ2 H2 (kk ds es η2) Q := by
  refine tL.bind rel er h fun ds η1 ρ1 H1 vs e1 r1 er1 p1 h1 => ?_
  refine tL.bind r1 er1 h1 fun es η2 ρ2 H2 zs e2 r2 er2 p2 h2 => ?_
  exact ⟨ds, es, η2, ρ2, e1.trans e2, r2, p1.mono e2, p2, h2⟩
theorem zip_nil {ws : List Value} (ks : List Keyword) (h : ks = []) : (ks.map kwName).zip ws = [] := by subst h; rfl
/-- f(..) -/
theorem s_call {x : Str} {f : Nat} {ds : List D} {args : List Expr} {l : Lst} {p pos : Pos} (hg : Gl X x) (hm : X.mg x = some (.ref (T.fa f))) (h1 : (x == ("__debug__" : Str)) = false) (hst : args.all noStar = true) (F : FnAt X a T G k f) (hr : Room k X.A) (hgd : X.A.guards = some []) (hx : ∀ σ, PassesAt (CF X) X σ (W σ)) (S : Sta X.K a T G)
    (hd : G.dfl f args.length = some ds) (hl : ∀ env η vs η', l env η = .ok vs η' → vs.length = args.length) (ha : PA X args (tL X.K a W l)) : PE X (.Call (.Name x p) args [] pos) (tE X.K a W (xCall G f ds l)) := by
  obtain ⟨hk, its, dv, rd, hb, hD, hlen⟩ := S.keep f _ ds hd
  refine ⟨fun pins s σ H Q I ⟨ρ, η, env, rel, er, h⟩ => ?_⟩
  refine wpAny_Call_Name_kw (ld_glob I hg hm ?_ h1)
  refine call_any (R' := fun vs zs H2 => zs = [] ∧ ∃ es η2 ρ2, es.length = args.length ∧ Ext ρ H ρ2 H2 ∧ Rel X.K a.C ρ2 η2 H2 ∧ Reps X.K ρ2 H2 es vs ∧ Out X.K a W σ ρ2 H2 (G.F f (es ++ ds) η2) Q) hk hst rfl ha pk_nil I ?_ ?_
  · refine ⟨ρ, η, env, rel, er, ?_⟩
    unfold xCall at h
    cases q : l env η with
    | ok es η1 =>
      rw [q] at h
      exact fun ρ1 H1 vs e1 r1 p1 => ⟨rfl, es, η1, ρ1, hl env η es η1 q, e1, r1, p1, Out.ext e1 h⟩
    | exc c η1 =>
      rw [q] at h
      exact fun ρ1 H1 e1 r1 => h ρ1 H1 e1 r1
    | bad =>
      rw [q] at h
      exact h.elim
  · intro us ws vs zs H2 s2 I2 r rz ⟨_, es, η2, ρ2, el, e2, r2, p2, h2⟩
    have r3 : Vals (vs ++ dv) (us ++ its) := r.append rd
    have p3 : Reps X.K ρ2 H2 (es ++ ds) (vs ++ dv) := p2.app (hD ρ2 H2)
    have l3 : (es ++ ds).length = (T.ps f).length := by rw [List.length_append, el]; exact hlen
    refine runF F hr hgd (hx σ) I2 (hb s2 us I2.kIn ?_) r3 r2 p3 l3 h2
    rw [← r3.length, ← p3.length]
    exact l3
/-- f(.., k = ..) -/
theorem s_callK {x : Str} {f : Nat} {g : List D → List D → List D} {args : List Expr} {kws : List Keyword} {l lk : Lst} {p pos : Pos} (hg : Gl X x) (hm : X.mg x = some (.ref (T.fa f))) (h1 : (x == ("__debug__" : Str)) = false) (hst : args.all noStar = true) (hall : kws.all kwSome = true) (F : FnAt X a T G k f) (hr : Room k X.A) (hgd : X.A.guards = some [])
    (hx : ∀ σ, PassesAt (CF X) X σ (W σ)) (S : Sta X.K a T G) (hd : G.kwd f args.length (kws.map kwName) = some g) (hl : ∀ env η vs η', l env η = .ok vs η' → vs.length = args.length) (hlk : ∀ env η vs η', lk env η = .ok vs η' → vs.length = kws.length)
    (ha : PA X args (tL X.K a W l)) (hkw : PK X kws (tL X.K a W lk)) : PE X (.Call (.Name x p) args kws pos) (tE X.K a W (xCallK G f g l lk)) := by
  obtain ⟨hk, gv, gV, hb, hL, hG⟩ := S.kwd f _ _ g hd
  refine ⟨fun pins s σ H Q I ⟨ρ, η, env, rel, er, h⟩ => ?_⟩
  refine wpAny_Call_Name_kw (ld_glob I hg hm ?_ h1)
  refine call_any (R' := fun vs zs H2 => ∃ es zs' η2 ρ2, es.length = args.length ∧ zs'.length = kws.length ∧ Ext ρ H ρ2 H2 ∧ Rel X.K a.C ρ2 η2 H2 ∧ Reps X.K ρ2 H2 es vs ∧ Reps X.K ρ2 H2 zs' zs ∧ Out X.K a W σ ρ2 H2 (G.F f (g es zs') η2) Q) hk hst hall ha hkw I ?_ ?_
  · refine ⟨ρ, η, env, rel, er, ?_⟩
    unfold xCallK at h
    cases q : l env η with
    | ok es η1 =>
      rw [q] at h
      refine fun ρ1 H1 vs e1 r1 p1 => ⟨ρ1, η1, env, r1, er.mono e1, ?_⟩
      have h := Out.ext e1 h
      cases q2 : lk env η1 with
      | ok zs' η2 =>
        simp only [R.bind, q2] at h
        exact fun ρ2 H2 zs e2 r2 p2 => ⟨es, zs', η2, ρ2, hl env η es η1 q, hlk env η1 zs' η2 q2, e1.trans e2, r2, p1.mono e2, p2, Out.ext e2 h⟩
      | exc c η2 =>
        simp only [R.bind, q2] at h
        exact fun ρ2 H2 e2 r2 => h ρ2 H2 e2 r2
      | bad =>
        simp only [R.bind, q2] at h
        exact h.elim
    | exc c η1 =>
      rw [q] at h
      exact fun ρ1 H1 e1 r1 => h ρ1 H1 e1 r1
    | bad =>
      rw [q] at h
      exact h.elim
  · intro us ws vs zs H2 s2 I2 r rz ⟨es, zs', η2, ρ2, el, zl, e2, r2, p2, pz, h2⟩
    have p3 := hG ρ2 H2 es vs zs' zs el (by rw [zl, List.length_map]) p2 pz
    have l3 := hL es zs' el (by rw [zl, List.length_map])
    refine runF F hr hgd (hx σ) I2 (hb.to s2 us ws I2.kIn ?_ ?_) (hb.rel r rz) r2 p3 l3 h2
    · rw [← r.length, ← p2.length]; exact el
    · rw [← rz.length, ← pz.length, zl, List.length_map]
/-! ### methods -/
theorem not_all : ∀ {l : List (Sem Value)}, (l.map fun e => (false, e)).all (fun x : Bool × Sem Value => !x.1) = true
  | [] => rfl
  | _ :: r => by
    show (true && _) = true
    exact not_all (l := r)
theorem form_of {args : List Expr} {kws : List Keyword} {pos : Pos} {env : Env} (hst : args.all noStar = true) (hall : kws.all kwSome = true) (hn : args.length + kws.length < 20) :
    methodCallForm (args.length + kws.length) (backTo pos (starEach args env)) (backToKw pos (keywordEach kws env)) = true := by
  have h1 : (backTo pos (starEach args env)).all (fun x => !x.1) = true := by
    rw [star_all hst]
    have h : ∀ es : List Expr, (backTo pos (es.map fun e => (false, eval e env))).all (fun x => !x.1) = true := fun es => by
      induction es with
      | nil => rfl
      | cons e r ih => exact ih
    exact h args
  have h2 := (kw_all pos (env := env) hall).1
  unfold methodCallForm
  rw [h1, h2]
  simp only [Bool.true_and, decide_eq_true_eq]
  split <;> omega
theorem meth_tree {o : Expr} {m : Str} {apos pos : Pos} {args : List Expr} {kws : List Keyword} {env : Env} (hs : notSup o = true) (hline : (apos.endLine == pos.line) = true) (hst : args.all noStar = true) (hall : kws.all kwSome = true) (hn : args.length + kws.length < 20) :
    eval (.Call (.Attribute o m apos) args kws pos) env = (do
      let ov ← eval o env
      standAt apos.atName
      let (f, first) ← holding [ov] (getMethod ov m (do return (← importBound o env).getD true))
      callWith pos f first (backTo pos (starEach args env)) (backToKw pos (keywordEach kws env))) := by
  have hp : methodCallPos true o env apos pos = pure pos := by
    unfold methodCallPos
    simp [hline]
  rw [arm_eval_Call, base_of hs]
  unfold methodCall
  rw [form_of hst hall hn]
  simp only [hp, pure_bind]
  rfl
theorem s_meth {m : Str} {o : Expr} {args : List Expr} {l : Lst} {mo : Exp} {apos pos : Pos} (hs : notSup o = true) (hline : (apos.endLine == pos.line) = true) (hst : args.all noStar = true) (hn : args.length < 20) (F : ∀ f, (∃ n ds, G.dfl f n = some ds) → FnAt X a T G k f) (hr : Room k X.A) (hgd : X.A.guards = some [])
    (hx : ∀ σ, PassesAt (CF X) X σ (W σ)) (S : Sta X.K a T G) (hl : ∀ env η vs η', l env η = .ok vs η' → vs.length = args.length) (ho : PE X o (tE X.K a W mo)) (ha : PA X args (tL X.K a W l)) :
    PE X (.Call (.Attribute o m apos) args [] pos) (tE X.K a W (xMeth G m args.length mo l)) := by
  refine ⟨fun pins s σ H Q I ⟨ρ, η, env, rel, er, h⟩ => ?_⟩
  refine PySem.W.methodCall_KW (thn (ho.run pins s σ H (fun v H1 => ∃ ρ1 η1 d, Ext ρ H ρ1 H1 ∧ Rel X.K a.C ρ1 η1 H1 ∧ EnvR X.K ρ1 H1 env σ ∧ Rep X.K ρ1 H1 d v ∧ Out X.K a W σ ρ1 H1 (match d with
      | .ref i => match η1[i]? with
        | some (.ins c fs) => (match fs.lookup m, G.meth c m with
          | none, some f => (match G.dfl f (args.length + 1) with
            | some ds => (l env η1).bind fun vs η2 => G.F f (d :: (vs ++ ds)) η2
            | none => .bad)
          | _, _ => .bad)
        | _ => .bad
      | _ => .bad) Q) I ?_) fun u s1 ⟨v, H1, I1, ru, ρ1, η1, d, e1, r1, er1, p1, h1⟩ => ?_) (meth_tree hs hline hst rfl (by simpa using hn))
  · exact tE.bind rel er h fun d η1 ρ1 H1 v e1 r1 er1 p1 h1 => ⟨ρ1, η1, d, e1, r1, er1, p1, h1⟩
  · split at h1
    · rename_i i
      split at h1
      · rename_i c fs q
        split at h1
        · rename_i f q1 q2
          split at h1
          · rename_i ds q3
            obtain ⟨p, dx, fv, rfl, hp, h2, h3, h4⟩ := r1.ins q p1
            cases ru
            obtain ⟨hC, hM⟩ := S.meth c m f q2
            obtain ⟨hk, its, dv, rd, hb, hD, hlen⟩ := S.keep f _ ds q3
            refine getmeth_ok I1 h2 hC hM ((lookup_of m h3 h4).2 q1) ?_
            refine call_any (first := [.ref p]) (kws := []) (R' := fun vs zs H2 => zs = [] ∧ ∃ es η2 ρ2, es.length = args.length ∧ Ext ρ1 H1 ρ2 H2 ∧ Rel X.K a.C ρ2 η2 H2 ∧ Reps X.K ρ2 H2 es vs ∧ Out X.K a W σ ρ2 H2 (G.F f (.ref i :: (es ++ ds)) η2) Q) hk hst rfl ha pk_nil I1 ?_ ?_
            · refine ⟨ρ1, η1, env, r1, er1, ?_⟩
              cases q5 : l env η1 with
              | ok es η2 =>
                rw [q5] at h1
                exact fun ρ2 H2 vs e2 r2 p2 => ⟨rfl, es, η2, ρ2, hl env η1 es η2 q5, e2, r2, p2, Out.ext e2 h1⟩
              | exc c η2 =>
                rw [q5] at h1
                exact fun ρ2 H2 e2 r2 => h1 ρ2 H2 e2 r2
              | bad =>
                rw [q5] at h1
                exact h1.elim
            · intro us ws vs zs H2 s2 I2 r rz ⟨_, es, η2, ρ2, el, e2, r2, p2, h2⟩
              have r3 : Vals (.ref p :: (vs ++ dv)) (.ref p :: (us ++ its)) := .cons rfl (r.append rd)
              have p3 : Reps X.K ρ2 H2 (.ref i :: (es ++ ds)) (.ref p :: (vs ++ dv)) := .cons (.ref (e2.at hp)) (p2.app (hD ρ2 H2))
              have l3 : (D.ref i :: (es ++ ds)).length = (T.ps f).length := by rw [List.length_cons, List.length_append, el]; omega
              refine runF (F f ⟨_, _, q3⟩) hr hgd (hx σ) I2 (hb s2 (.ref p :: us) I2.kIn ?_) r3 r2 p3 l3 h2
              have l4 := r3.length
              have l5 := p3.length
              simp only [List.length_cons, List.length_append] at l3 l4 l5 ⊢
              omega
          · exact h1.elim
        · exact h1.elim
      · exact h1.elim
    · exact h1.elim
theorem s_methK {m : Str} {o : Expr} {args : List Expr} {kws : List Keyword} {l lk : Lst} {mo : Exp} {apos pos : Pos} (hs : notSup o = true) (hline : (apos.endLine == pos.line) = true) (hst : args.all noStar = true) (hall : kws.all kwSome = true) (hn : args.length + kws.length < 20)
    (F : ∀ f, (∃ n ks g, G.kwd f n ks = some g) → FnAt X a T G k f) (hr : Room k X.A) (hgd : X.A.guards = some []) (hx : ∀ σ, PassesAt (CF X) X σ (W σ)) (S : Sta X.K a T G) (hl : ∀ env η vs η', l env η = .ok vs η' → vs.length = args.length) (hlk : ∀ env η vs η', lk env η = .ok vs η' → vs.length = kws.length)
    (ho : PE X o (tE X.K a W mo)) (ha : PA X args (tL X.K a W l)) (hkw : PK X kws (tL X.K a W lk)) : PE X (.Call (.Attribute o m apos) args kws pos) (tE X.K a W (xMethK G m args.length (kws.map kwName) mo l lk)) := by
  refine ⟨fun pins s σ H Q I ⟨ρ, η, env, rel, er, h⟩ => ?_⟩
  refine PySem.W.methodCall_KW (thn (ho.run pins s σ H (fun v H1 => ∃ ρ1 η1 d, Ext ρ H ρ1 H1 ∧ Rel X.K a.C ρ1 η1 H1 ∧ EnvR X.K ρ1 H1 env σ ∧ Rep X.K ρ1 H1 d v ∧ Out X.K a W σ ρ1 H1 (match d with
      | .ref i => match η1[i]? with
        | some (.ins c fs) => (match fs.lookup m, G.meth c m with
          | none, some f => (match G.kwd f (args.length + 1) (kws.map kwName) with
            | some g => (l env η1).bind fun vs η2 => (lk env η2).bind fun zs η3 => G.F f (g (d :: vs) zs) η3
            | none => .bad)
          | _, _ => .bad)
        | _ => .bad
      | _ => .bad) Q) I ?_) fun u s1 ⟨v, H1, I1, ru, ρ1, η1, d, e1, r1, er1, p1, h1⟩ => ?_) (meth_tree hs hline hst hall hn)
  · exact tE.bind rel er h fun d η1 ρ1 H1 v e1 r1 er1 p1 h1 => ⟨ρ1, η1, d, e1, r1, er1, p1, h1⟩
  · split at h1
    · rename_i i
      split at h1
      · rename_i c fs q
        split at h1
        · rename_i f q1 q2
          split at h1
          · rename_i g q3
            obtain ⟨p, dx, fv, rfl, hp, h2, h3, h4⟩ := r1.ins q p1
            cases ru
            obtain ⟨hC, hM⟩ := S.meth c m f q2
            obtain ⟨hk, gv, gV, hb, hL, hG⟩ := S.kwd f _ _ g q3
            refine getmeth_ok I1 h2 hC hM ((lookup_of m h3 h4).2 q1) ?_
            refine call_any (first := [.ref p]) (R' := fun vs zs H2 => ∃ es zs' η2 ρ2, es.length = args.length ∧ zs'.length = kws.length ∧ Ext ρ1 H1 ρ2 H2 ∧ Rel X.K a.C ρ2 η2 H2 ∧ Reps X.K ρ2 H2 es vs ∧ Reps X.K ρ2 H2 zs' zs ∧ Out X.K a W σ ρ2 H2 (G.F f (g (.ref i :: es) zs') η2) Q) hk hst hall ha hkw I1 ?_ ?_
            · refine ⟨ρ1, η1, env, r1, er1, ?_⟩
              cases q5 : l env η1 with
              | ok es η2 =>
                rw [q5] at h1
                refine fun ρ2 H2 vs e2 r2 p2 => ⟨ρ2, η2, env, r2, er1.mono e2, ?_⟩
                have h1 := Out.ext e2 h1
                cases q6 : lk env η2 with
                | ok zs' η3 =>
                  simp only [R.bind, q6] at h1
                  exact fun ρ3 H3 zs e3 r3 p3 => ⟨es, zs', η3, ρ3, hl env η1 es η2 q5, hlk env η2 zs' η3 q6, e2.trans e3, r3, p2.mono e3, p3, Out.ext e3 h1⟩
                | exc c η3 =>
                  simp only [R.bind, q6] at h1
                  exact fun ρ3 H3 e3 r3 => h1 ρ3 H3 e3 r3
                | bad =>
                  simp only [R.bind, q6] at h1
                  exact h1.elim
              | exc c η2 =>
                rw [q5] at h1
                exact fun ρ2 H2 e2 r2 => h1 ρ2 H2 e2 r2
              | bad =>
                rw [q5] at h1
                exact h1.elim
            · intro us ws vs zs H2 s2 I2 r rz ⟨es, zs', η2, ρ2, el, zl, e2, r2, p2, pz, h2⟩
              have r3 : Vals (.ref p :: vs) (.ref p :: us) := .cons rfl r
              have p3 : Reps X.K ρ2 H2 (.ref i :: es) (.ref p :: vs) := .cons (.ref (e2.at hp)) p2
              have p4 := hG ρ2 H2 (.ref i :: es) _ zs' zs (congrArg Nat.succ el) (by rw [zl, List.length_map]) p3 pz
              have l3 := hL (.ref i :: es) zs' (congrArg Nat.succ el) (by rw [zl, List.length_map])
              refine runF (F f ⟨_, _, _, q3⟩) hr hgd (hx σ) I2 (hb.to s2 (.ref p :: us) ws I2.kIn ?_ ?_) (hb.rel r3 rz) r2 p4 l3 h2
              · rw [← r3.length, ← p3.length]; exact congrArg Nat.succ el
              · rw [← rz.length, ← pz.length, zl, List.length_map]
          · exact h1.elim
        · exact h1.elim
      · exact h1.elim
    · exact h1.elim
/-! ### new instances -/
theorem s_make {x : Str} {c f : Nat} {ds : List D} {args : List Expr} {l : Lst} {p pos : Pos} (hg : Gl X x) (hm : X.mg x = some (.ref (a.C c))) (h1 : (x == ("__debug__" : Str)) = false) (hst : args.all noStar = true) (F : FnAt X a T G k f) (hr : Room (k + 1) X.A) (hgd : X.A.guards = some []) (hx : ∀ σ, PassesAt (CF X) X σ (W σ)) (S : Sta X.K a T G)
    (hi : G.init c = some f) (hd : G.dfl f (args.length + 1) = some ds) (hl : ∀ env η vs η', l env η = .ok vs η' → vs.length = args.length) (ha : PA X args (tL X.K a W l)) : PE X (.Call (.Name x p) args [] pos) (tE X.K a W (xMake G c f ds l)) := by
  obtain ⟨hk, its, dv, rd, hb, hD, hlen⟩ := S.keep f _ ds hd
  have M := S.init c f hi
  refine ⟨fun pins s σ H Q I ⟨ρ, η, env, rel, er, h⟩ => ?_⟩
  refine wpAny_Call_Name_kw (ld_glob I hg hm ?_ h1)
  refine call_any (kws := []) (R' := fun vs zs H2 => zs = [] ∧ ∃ es η2 ρ2, es.length = args.length ∧ Ext ρ H ρ2 H2 ∧ Rel X.K a.C ρ2 η2 H2 ∧ Reps X.K ρ2 H2 es vs ∧ Out X.K a W σ ρ2 H2 ((G.F f (.ref η2.length :: (es ++ ds)) (η2 ++ [.ins c []])).bind fun d η3 => match d with
      | .non => .ok (.ref η2.length) η3
      | _ => .bad) Q) M.kp hst rfl ha pk_nil I ?_ ?_
  · refine ⟨ρ, η, env, rel, er, ?_⟩
    unfold xMake at h
    cases q : l env η with
    | ok es η1 =>
      rw [q] at h
      exact fun ρ1 H1 vs e1 r1 p1 => ⟨rfl, es, η1, ρ1, hl env η es η1 q, e1, r1, p1, Out.ext e1 h⟩
    | exc c η1 =>
      rw [q] at h
      exact fun ρ1 H1 e1 r1 => h ρ1 H1 e1 r1
    | bad =>
      rw [q] at h
      exact h.elim
  · intro us ws vs zs H2 s2 I2 r rz ⟨_, es, η2, ρ2, el, e2, r2, p2, h2⟩
    have l3 : (D.ref η2.length :: (es ++ ds)).length = (T.ps f).length := by rw [List.length_cons, List.length_append, el]; omega
    refine runM M F hr hgd (hx σ) I2 r2 l3 (fun s3 y k3 ρ' H' e' hy => ?_) h2
    have r3 : Vals (.ref y :: (vs ++ dv)) (.ref y :: (us ++ its)) := .cons rfl (r.append rd)
    have p3 : Reps X.K ρ' H' (.ref η2.length :: (es ++ ds)) (.ref y :: (vs ++ dv)) := .cons (.ref hy) ((p2.mono e').app (hD ρ' H'))
    refine ⟨_, _, hb s3 (.ref y :: us) k3 ?_, r3, p3⟩
    have l4 := r3.length
    have l5 := p3.length
    simp only [List.length_cons, List.length_append] at l3 l4 l5 ⊢
    omega
theorem s_makeK {x : Str} {c f : Nat} {g : List D → List D → List D} {args : List Expr} {kws : List Keyword} {l lk : Lst} {p pos : Pos} (hg : Gl X x) (hm : X.mg x = some (.ref (a.C c))) (h1 : (x == ("__debug__" : Str)) = false) (hst : args.all noStar = true) (hall : kws.all kwSome = true) (F : FnAt X a T G k f) (hr : Room (k + 1) X.A) (hgd : X.A.guards = some [])
    (hx : ∀ σ, PassesAt (CF X) X σ (W σ)) (S : Sta X.K a T G) (hi : G.init c = some f) (hd : G.kwd f (args.length + 1) (kws.map kwName) = some g) (hl : ∀ env η vs η', l env η = .ok vs η' → vs.length = args.length) (hlk : ∀ env η vs η', lk env η = .ok vs η' → vs.length = kws.length)
    (ha : PA X args (tL X.K a W l)) (hkw : PK X kws (tL X.K a W lk)) : PE X (.Call (.Name x p) args kws pos) (tE X.K a W (xMakeK G c f g l lk)) := by
  obtain ⟨hk, gv, gV, hb, hL, hG⟩ := S.kwd f _ _ g hd
  have M := S.init c f hi
  refine ⟨fun pins s σ H Q I ⟨ρ, η, env, rel, er, h⟩ => ?_⟩
  refine wpAny_Call_Name_kw (ld_glob I hg hm ?_ h1)
  refine call_any (R' := fun vs zs H2 => ∃ es zs' η2 ρ2, es.length = args.length ∧ zs'.length = kws.length ∧ Ext ρ H ρ2 H2 ∧ Rel X.K a.C ρ2 η2 H2 ∧ Reps X.K ρ2 H2 es vs ∧ Reps X.K ρ2 H2 zs' zs ∧ Out X.K a W σ ρ2 H2 ((G.F f (g (.ref η2.length :: es) zs') (η2 ++ [.ins c []])).bind fun d η3 => match d with
      | .non => .ok (.ref η2.length) η3
      | _ => .bad) Q) M.kp hst hall ha hkw I ?_ ?_
  · refine ⟨ρ, η, env, rel, er, ?_⟩
    unfold xMakeK at h
    cases q : l env η with
    | ok es η1 =>
      rw [q] at h
      refine fun ρ1 H1 vs e1 r1 p1 => ⟨ρ1, η1, env, r1, er.mono e1, ?_⟩
      have h := Out.ext e1 h
      cases q2 : lk env η1 with
      | ok zs' η2 =>
        simp only [R.bind, q2] at h
        exact fun ρ2 H2 zs e2 r2 p2 => ⟨es, zs', η2, ρ2, hl env η es η1 q, hlk env η1 zs' η2 q2, e1.trans e2, r2, p1.mono e2, p2, Out.ext e2 h⟩
      | exc c η2 =>
        simp only [R.bind, q2] at h
        exact fun ρ2 H2 e2 r2 => h ρ2 H2 e2 r2
      | bad =>
        simp only [R.bind, q2] at h
        exact h.elim
    | exc c η1 =>
      rw [q] at h
      exact fun ρ1 H1 e1 r1 => h ρ1 H1 e1 r1
    | bad =>
      rw [q] at h
      exact h.elim
  · intro us ws vs zs H2 s2 I2 r rz ⟨es, zs', η2, ρ2, el, zl, e2, r2, p2, pz, h2⟩
    have l3 : (g (D.ref η2.length :: es) zs').length = (T.ps f).length := hL _ _ (congrArg Nat.succ el) (by rw [zl, List.length_map])
    refine runM M F hr hgd (hx σ) I2 r2 l3 (fun s3 y k3 ρ' H' e' hy => ?_) h2
    have r3 : Vals (.ref y :: vs) (.ref y :: us) := .cons rfl r
    have p3 : Reps X.K ρ' H' (.ref η2.length :: es) (.ref y :: vs) := .cons (.ref hy) (p2.mono e')
    have p4 := hG ρ' H' (.ref η2.length :: es) _ zs' zs (congrArg Nat.succ el) (by rw [zl, List.length_map]) p3 (pz.mono e')
    refine ⟨_, _, hb.to s3 (.ref y :: us) ws k3 ?_ ?_, hb.rel r3 rz, p4⟩
    · rw [← r3.length, ← p3.length]; exact congrArg Nat.succ el
    · rw [← rz.length, ← pz.length, zl, List.length_map]
end
end En
end

section
set_option maxRecDepth 100000
set_option maxHeartbeats 2000000
/-! EL: built-in functions, types, methods; isinstance; list(range), list(d.items()). -/
namespace En
open PySem PySem.Spec PyProof.Rows L2
def biV : Bi → Value
  | .len => .builtin "len"
  | .range => .type "range"
  | .isinstance => .builtin "isinstance"
  | .tuple => .type "tuple"
  | .list => .type "list"
  | .dict => .type "dict"
  | .int => .type "int"
  | .str => .type "str"
  | .bool => .type "bool"
  | .max => .builtin "max"
  | .min => .builtin "min"
  | .sum => .builtin "sum"
  | .sorted => .builtin "sorted"
  | .all => .builtin "all"
  | .any => .builtin "any"
  | .zip => .type "zip"
  | .enumerate => .type "enumerate"
  | .set => .type "set"
  | .repr => .builtin "repr"
/-- how a built-in by values is read -/
def BiOk (X : Cx) (a : Ad) (b : Bi) (f : List D → Hv → R D) : Prop := ∃ r, CallR X (biV b) r ∧ OpN X.K a f r
def OpM (K : PySem.W.Frag) (a : Ad) (f : D → List D → Hv → R D) (r : V → List V → Hp → VK → Prop) : Prop := ∀ (W : L2.St → XK) (σ : L2.St) (ρ : List Addr) (η : Hv) (H : Hp) (d : D) (v : V) (ds : List D) (vs : List V) (Q : VK), Rel K a.C ρ η H → Rep K ρ H d v → Reps K ρ H ds vs → Out K a W σ ρ H (f d ds η) Q → r v vs H Q
def MtOk (X : Cx) (a : Ad) (t : String) (m : Str) (f : D → List D → Hv → R D) : Prop := ∃ id r, PlainAttrs t ∧ Slot t m id ∧ typeOf (.builtin id) = pure (.type "method_descriptor") ∧ MtR X id r ∧ OpM X.K a f r
section
variable {X : Cx} {a : Ad} {G : Gst} {W : L2.St → XK} {pos p : Pos}
/-- b(e, ..) -/
theorem s_bi {x : Str} {b : Bi} {f : List D → Hv → R D} {e : Expr} {es : List Expr} {l : Lst} (hg : Gl X x) (hm : X.mg x = none) (hv : bootBuiltins x = some (biV b)) (hn : x ≠ "__name__") (h1 : (x == ("__debug__" : Str)) = false) (hst : (e :: es).all noStar = true) (hb : BiOk X a b f) (hb2 : b ≠ .range)
    (ha : PA X (e :: es) (tL X.K a W l)) : PE X (.Call (.Name x p) (e :: es) [] pos) (tE X.K a W (xFn f l)) := by
  obtain ⟨r, hc, hop⟩ := hb
  have e1 : starEach (e :: es) X.env = (false, eval e X.env) :: starEach es X.env := star_of (by rw [List.all_cons, Bool.and_eq_true] at hst; exact hst.1)
  have e3 : (backTo pos (starEach es X.env)).any (·.1) = false := no_star (by rw [List.all_cons, Bool.and_eq_true] at hst; exact hst.2)
  have main : PE X (.Call (.Name x p) (e :: es) [] pos) (tCB r (tL X.K a W l)) := by
    cases b <;> first
      | exact pe_callB hc hg hm hv ha hn h1 e1 e3
      | exact pe_callTy hc hg hm hv ha hn h1 e1 e3
  refine main.imp fun σ H Q ⟨ρ, η, env, rel, er, h⟩ => ?_
  exact tL.bind rel er h fun ds η1 ρ1 H1 vs e1 r1 er1 p1 h1 => hop W σ ρ1 η1 H1 ds vs Q r1 p1 h1
/-- o.m(e, ..) of a built-in type -/
theorem s_bm {o : Expr} {m : Str} {apos : Pos} {e : Expr} {es : List Expr} {mo : Exp} {l : Lst} (hs : notSup o = true) (hline : (apos.endLine == pos.line) = true) (hst : (e :: es).all noStar = true) (hn : (e :: es).length < 20) (hM : ∀ t, G.mok t m = true → MtOk X a t m (G.M t m)) (ho : PE X o (tE X.K a W mo))
    (ha : PA X (e :: es) (tL X.K a W l)) : PE X (.Call (.Attribute o m apos) (e :: es) [] pos) (tE X.K a W (xBm G m mo l)) := by
  have e1 : starEach (e :: es) X.env = (false, eval e X.env) :: starEach es X.env := star_of (by rw [List.all_cons, Bool.and_eq_true] at hst; exact hst.1)
  have e2 : (backTo pos (starEach (e :: es) X.env)).any (·.1) = false := no_star hst
  have hf := form_of (pos := pos) (env := X.env) (kws := []) hst rfl (by simpa using hn)
  refine ⟨fun pins s σ H Q I ⟨ρ, η, env, rel, er, h⟩ => ?_⟩
  refine wpAny_Call_method_late (base_of hs) hf hline rfl (thn (ho.run pins s σ H (fun v H1 => ∃ ρ1 η1 d, Rel X.K a.C ρ1 η1 H1 ∧ EnvR X.K ρ1 H1 env σ ∧ Rep X.K ρ1 H1 d v ∧ Out X.K a W σ ρ1 H1 (match kindB η1 d with
    | some t => if G.mok t m then (l env η1).bind fun vs η2 => G.M t m d vs η2 else .bad
    | none => .bad) Q) I (tE.bind rel er h fun d η1 ρ1 H1 v e1 r1 er1 p1 h1 => ⟨ρ1, η1, d, r1, er1, p1, h1⟩)) fun u s1 ⟨v, H1, I1, ru, ρ1, η1, d, r1, er1, p1, h1⟩ => ?_)
  split at h1
  · rename_i t q
    split at h1
    · rename_i hm
      obtain ⟨id, r, pa, slot, hty, hmt, hop⟩ := hM t hm
      have ty : tyV X.K t v H1 := by
        unfold kindB at q
        split at q
        · cases q
          rw [p1.strv]
          rfl
        · cases q
          obtain ⟨z, vs, rfl, h2, _⟩ := p1.sqL
          exact .inl ⟨rfl, vs, .inl (.inl h2)⟩
        · rename_i i
          split at q
          · rename_i xs q2
            cases q
            obtain ⟨z, vs, rfl, _, h2, _⟩ := r1.lst q2 p1
            exact .inl ⟨rfl, vs, .inl (.inl h2)⟩
          · rename_i xs q2
            cases q
            obtain ⟨z, kv, rfl, _, h2, _⟩ := r1.dct q2 p1
            exact .inr (.inr (.inl ⟨rfl, .inl ⟨kv, h2⟩⟩))
          · cases q
        · cases q
      obtain ⟨t1, t2⟩ := tyV_is I1 ru ty
      refine ⟨t, id, pa, slot, hty, t1, t2, ?_⟩
      have hA := ha.run pos pins s1 σ H1 (fun vs H2 => r v vs H2 Q) I1 (tL.bind r1 er1 h1 fun ds η2 ρ2 H2 vs e2 r2 er2 p2 h2 => hop W σ ρ2 η2 H2 d v ds vs Q r2 (p1.mono e2) p2 h2)
      rw [e1] at hA e2 ⊢
      refine Calls.callWith_builtin e2 (Calls.evalArgs_plain ?_)
      exact thn hA fun us s2 ⟨vs, H2, I2, r2, q2⟩ => hmt pins s2 σ H2 v vs u us Q I2 ru r2 q2
    · exact h1.elim
  · exact h1.elim
/-! ### isinstance -/
theorem Rep.tyX {K : PySem.W.Frag} {ρ : List Addr} {η : Hv} {H : Hp} {d : D} {v : V} {n : String} (rel : Rel K a.C ρ η H) (h : tyName η d = some n) (r : Rep K ρ H d v) : TyX K H v (.type n) := by
  cases r with
  | non => cases h; exact .base .non
  | bl b => cases h; exact .base (.bl b)
  | int i => cases h; exact .base (.int i)
  | str s => cases h; exact .base (.str s)
  | tup h0 n r =>
    cases h
    rcases h0 with h0 | ⟨u, h0⟩
    · exact .base (.tup h0)
    · exact .fTuple h0
  | ktup h0 r =>
    cases h
    obtain ⟨o, its, n, h1, h2, _⟩ := h0
    exact .kTuple h1 h2
  | lst h0 n r => cases h; exact .base (.lst h0)
  | scr h0 n r =>
    cases h
    rcases h0 with h0 | ⟨u, h0⟩
    · exact .base (.lst h0)
    · exact .base (.frz h0)
  | kscr h0 r =>
    cases h
    obtain ⟨o, its, n, h1, h2, _⟩ := h0
    exact .kList h1 h2
  | @ref i p h0 =>
    replace h : (match η[i]? with
      | some (.lst _) => some "list"
      | some (.dct _) => some "dict"
      | _ => none) = some n := h
    split at h
    · rename_i xs q
      cases h
      obtain ⟨z, vs, e, _, h2, _⟩ := rel.lst q (.ref h0)
      cases e
      exact .base (.lst h2)
    · rename_i xs q
      cases h
      obtain ⟨z, kv, e, _, h2, _⟩ := rel.dct q (.ref h0)
      cases e
      exact .base (.dK h2)
    · cases h
/-- isinstance(e, y) -/
theorem s_isi {x y : Str} {e : Expr} {q : Pos} {m : Exp} {c : V} {uv : Value} {f : D → Hv → Option Bool} (hg : Gl X x) (hm : X.mg x = none) (hv : bootBuiltins x = some (.builtin "isinstance")) (hn : x ≠ "__name__") (h1 : (x == ("__debug__" : Str)) = false) (hs : noStar e = true) (hy : PE X (.Name y q) (tC c)) (hc : ClsV c uv)
    (hf : ∀ ρ η H d v b, Rel X.K a.C ρ η H → Rep X.K ρ H d v → f d η = some b → ∃ t, TyX X.K H v t ∧ PySem.W.kitOne X.K t uv = some b) (h : PE X e (tE X.K a W m)) :
    PE X (.Call (.Name x p) [e, .Name y q] [] pos) (tE X.K a W fun env η => (m env η).bind fun d η1 => match f d η1 with
      | some b => .ok (.bl b) η1
      | none => .bad) := by
  have e1 : starEach [e, .Name y q] X.env = (false, eval e X.env) :: starEach [.Name y q] X.env := star_of hs
  refine (pe_callB call_isi hg hm hv (pa_cons h (pa_cons hy pa_nil) e1) hn h1 e1 rfl).imp fun σ H Q ⟨ρ, η, env, rel, er, h⟩ => ?_
  refine tE.bind rel er h fun d η1 ρ1 H1 v e1 r1 er1 p1 h1 => ?_
  split at h1
  · rename_i b qb
    obtain ⟨t, ty, k1⟩ := hf ρ1 η1 H1 d v b r1 p1 qb
    exact ⟨v, c, t, uv, b, rfl, hc, ty, k1, Out.okv r1 h1 (.bl b)⟩
  · exact h1.elim
theorem isT_of (T : String) : ∀ ρ η H d v b, Rel X.K a.C ρ η H → Rep X.K ρ H d v → ((tyName η d).bind fun n => kitB n T) = some b → ∃ t, TyX X.K H v t ∧ PySem.W.kitOne X.K t (.type T) = some b := fun ρ η H d v b rel rp h => by
  cases q : tyName η d with
  | none => rw [q] at h; cases h
  | some n =>
    rw [q] at h
    exact ⟨_, rp.tyX rel q, kit_ty h⟩
/-! ### T.index(x), T a tuple of texts that the top has written -/
theorem idx_first {ds : List Str} {z : Str} {j : Nat} (h : ds.findIdx? (· == z) = some j) : ds[j]? = some z ∧ ∀ m, m < j → ds[m]? ≠ some z := by
  obtain ⟨hj, h1, h2⟩ := List.findIdx?_eq_some_iff_getElem.mp h
  refine ⟨?_, fun m hm e => ?_⟩
  · rw [List.getElem?_eq_getElem hj]
    exact congrArg some (by simpa using h1)
  · have := h2 m hm
    rw [List.getElem?_eq_getElem (by omega)] at e
    rw [Option.some.inj e] at this
    simp at this
theorem s_ktix {x : Str} {ds : List Str} {t : Addr} {e : Expr} {apos q : Pos} {m : Exp} (hg : Gl X x) (hm : X.mg x = some (.ref t)) (h1 : (x == ("__debug__" : Str)) = false) (hK : ∃ o, X.K.lookup t = some o ∧ o.cls = .type "tuple" ∧ o.dict = none) (hR : SqT X.K (fun _ => none) t (ds.map V.str)) (hline : (apos.endLine == pos.line) = true) (hs : noStar e = true)
    (h : PE X e (tE X.K a W m)) : PE X (.Call (.Attribute (.Name x q) "index" apos) [e] [] pos) (tE X.K a W (xKtIx ds m)) := by
  have e1 : starEach [e] X.env = (false, eval e X.env) :: starEach [] X.env := star_of hs
  have hf := form_of (args := [e]) (pos := pos) (env := X.env) (kws := []) (by rw [List.all_cons, hs]; rfl) rfl (Nat.lt_of_sub_eq_succ rfl)
  refine (pe_bm PySem.F.plainAttrs_tuple PySem.F.slot_tuple_index PySem.F.type_tuple_index mt_tup_index (pe_glob hg hm (v := .ref t) rfl h1) (pa_cons h pa_nil e1) rfl hf hline e1 rfl).imp fun σ H Q ⟨ρ, η, env, rel, er, h⟩ => ?_
  refine ⟨.inr (.inl ⟨rfl, hK⟩), ?_⟩
  refine tE.bind rel er h fun d η1 ρ1 H1 v e1 r1 er1 p1 h1 => ?_
  split at h1
  · rename_i z
    split at h1
    · rename_i j qj
      obtain ⟨j1, j2⟩ := idx_first qj
      refine ⟨t, ds, z, j, rfl, by rw [p1.strv], ?_, j1, j2, Out.okv r1 h1 (.int _)⟩
      rcases hR with hR | hR
      · rcases hR with hR | ⟨u, hR⟩ <;> cases hR
      · exact .inr hR
    · exact h1.elim
  · exact h1.elim
/-! ### list(range(n)), list(d.items()) -/
theorem in62_of {i : Int} (h : in62 i = true) : -(2 ^ 62) ≤ i ∧ i < 2 ^ 62 := by
  unfold in62 at h
  rw [Bool.and_eq_true] at h
  exact ⟨of_decide_eq_true h.1, of_decide_eq_true h.2⟩
theorem s_listRng {e : Expr} {q p2 : Pos} {m : Exp} (hc : X.calm = true) (hg : Gl X "list") (hm : X.mg "list" = none) (hg2 : Gl X "range") (hm2 : X.mg "range" = none) (hs : noStar e = true) (h : PE X e (tE X.K a W m)) :
    PE X (.Call (.Name "list" p) [.Call (.Name "range" q) [e] [] p2] [] pos) (tE X.K a W (xListRng (iRng1 m))) := by
  refine (pe_listRg hc hg hm (prg_1 hg2 hm2 h (star_of hs)) (star_of rfl)).imp fun σ H Q ⟨ρ, η, env, rel, er, h⟩ => ?_
  unfold xListRng iRng1 at h
  refine tE.thn rel er (fun d η1 q ρ1 H1 v e1 r1 er1 p1 => ?_) (fun c η1 q ρ1 H1 e1 r1 => ?_) fun q => ?_
  · rw [q] at h
    cases d with
    | int j =>
      simp only [R.bind] at h
      cases hj : in62 j with
      | true =>
        simp only [hj, if_true] at h
        obtain ⟨hn, h⟩ := if_bad h
        obtain ⟨j1, j2⟩ := in62_of hj
        have h := Out.ext e1 h
        refine ⟨j, p1.intv, ⟨by omega, by omega, j1, j2, by simpa using hn⟩, fun z nz => ?_⟩
        have e : rgV 0 j = (List.range j.toNat).map fun k => V.int (0 + (k : Nat)) := by
          unfold rgV
          simp
        rw [e]
        refine Out.newl r1 h ?_ z nz
        have := Reps.ints (K := X.K) (ρ := ρ1) (H := H1) ((List.range j.toNat).map fun k => (0 : Int) + (k : Nat))
        rw [List.map_map, List.map_map] at this
        exact this
      | false =>
        simp only [hj] at h
        exact h.elim
    | _ => exact h.elim
  · rw [q] at h
    exact h ρ1 H1 e1 r1
  · rw [q] at h
    exact h
theorem items_reps {K : PySem.W.Frag} {ρ : List Addr} {H : Hp} : ∀ {ts : List Addr} {kvs : List (Key × V)} {ds : List (Key × D)}, (∀ t ∈ ts, t ∉ ρ) → Paired (fun (t : Addr) (q : Key × V) => H t = some (.tup [kV q.1, q.2])) ts kvs → ds.map (·.1) = kvs.map (·.1) → Reps K ρ H (ds.map (·.2)) (kvs.map (·.2)) →
    Reps K ρ H (ds.map fun kv => D.tup [match kv.1 with
      | .inl i => .int i
      | .inr s => .str s, kv.2]) (ts.map V.ref)
  | [], [], [], _, _, _, _ => .nil
  | _ :: _, [], _, _, p, _, _ => by cases p
  | [], _ :: _, _, _, p, _, _ => by cases p
  | [], [], _ :: _, _, _, e, _ => by cases e
  | _ :: _, _ :: _, [], _, _, e, _ => by cases e
  | t :: ts, (k, v) :: kvs, (k2, d) :: ds, hn, .cons p ps, e, r => by
    rw [List.map_cons, List.map_cons] at e
    obtain ⟨e1, e2⟩ := List.cons.inj e
    have e1 : k2 = k := e1
    subst e1
    cases r with
    | cons r1 r2 =>
      refine .cons (.tup (.inl p) (hn t List.mem_cons_self) (.cons ?_ (.cons r1 .nil))) (items_reps (fun t ht => hn t (List.mem_cons_of_mem _ ht)) ps e2 r2)
      cases k2 with
      | inl i => exact .int i
      | inr s => exact .str s
theorem s_listItems {e : Expr} {apos cpos : Pos} {m : Exp} (hc : X.calm = true) (hg : Gl X "list") (hm : X.mg "list" = none) (hs : notSup e = true) (hline : (apos.endLine == cpos.line) = true) (h : PE X e (tE X.K a W m)) :
    PE X (.Call (.Name "list" p) [.Call (.Attribute e "items" apos) [] [] cpos] [] pos) (tE X.K a W (xListItems m)) := by
  refine (LiI.pe_listItems hc h hg hm boot_list (base_of hs) hline (star_of rfl)).imp fun σ H Q ⟨ρ, η, env, rel, er, h⟩ => ?_
  refine tE.bind rel er h fun d η1 ρ1 H1 v e1 r1 er1 p1 h1 => ?_
  split at h1
  · rename_i kvs qd
    obtain ⟨_, z, kv, _, _, _, rfl, h3, h4, h5⟩ := r1.dctOf qd p1
    refine ⟨z, kv, rfl, h3, fun H' y ts hk hy ht hyt hH' hp => ?_⟩
    have ny := r1.free hy
    have ex : Ext ρ1 H1 (ρ1 ++ [y]) H' := ⟨List.prefix_append _ _, fun b o e _ _ => hk b o e, fun b hb hb2 o e => by
      rcases List.mem_append.mp hb with h6 | h6
      · exact absurd h6 hb2
      · rw [List.mem_singleton.mp h6, hy] at e; cases e⟩
    have rp : Reps X.K (ρ1 ++ [y]) H' (kvs.map fun kv => D.tup [match kv.1 with
      | .inl i => .int i
      | .inr s => .str s, kv.2]) (ts.map V.ref) := by
      refine items_reps (fun t ht2 hm => ?_) hp h4 (h5.mono ex)
      rcases List.mem_append.mp hm with h6 | h6
      · exact r1.free (ht t ht2) h6
      · exact hyt (List.mem_singleton.mp h6 ▸ ht2)
    refine h1 _ _ _ ex ⟨by rw [List.length_append, List.length_append, r1.len]; rfl, ?_, fun i o b e1 e2 => ?_, r1.tabs.ext hk⟩ (rep_last r1)
    · exact List.nodup_append.mpr ⟨r1.nd, by simp, fun u hu w hw e => ny (by rw [List.mem_singleton.mp hw] at e; rw [← e]; exact hu)⟩
    · by_cases hi : i < η1.length
      · rw [List.getElem?_append_left hi] at e1
        rw [List.getElem?_append_left (by rw [r1.len]; exact hi)] at e2
        refine (r1.ob i o b e1 e2).mono ex ?_
        obtain ⟨u, hu, _⟩ := (r1.ob i o b e1 e2).some
        rw [hk b u hu, hu]
      · have hj : i = η1.length := by
          have := (List.getElem?_eq_some_iff.mp e1).1
          rw [List.length_append] at this
          simp at this
          omega
        subst hj
        rw [List.getElem?_append_right (Nat.le_refl _), Nat.sub_self] at e1
        rw [List.getElem?_append_right (by rw [r1.len]; exact Nat.le_refl _), r1.len, Nat.sub_self] at e2
        cases e1
        cases e2
        exact ⟨_, hH', rp⟩
  · exact h1.elim
end
end En
end

section
set_option maxRecDepth 100000
set_option maxHeartbeats 2000000
/-! EM: targets. -/
namespace En
open PySem PySem.Spec PyProof.Rows L2
/-- vs: the slots that may be written -/
def OutG (K : PySem.W.Frag) (a : Ad) (vs : List Nat) (σ : L2.St) (ρ : List Addr) (H : Hp) (r : R Ev) (Q : L2.St → Hp → Prop) : Prop := match r with
  | .ok env η => ∀ ρ' H' σ', Ext ρ H ρ' H' → Rel K a.C ρ' η H' → EnvR K ρ' H' env σ' → wipe σ' vs = wipe σ vs → Q σ' H'
  | _ => False
def tG (K : PySem.W.Frag) (a : Ad) (vs : List Nat) (g : Tgt) : TG := fun v σ H Q => ∃ ρ η env d, Rel K a.C ρ η H ∧ EnvR K ρ H env σ ∧ Rep K ρ H d v ∧ OutG K a vs σ ρ H (g d env η) Q
def tGs (K : PySem.W.Frag) (a : Ad) (vs : List Nat) (g : Tgts) : TGs := fun us σ H Q => ∃ ρ η env ds, Rel K a.C ρ η H ∧ EnvR K ρ H env σ ∧ Reps K ρ H ds us ∧ OutG K a vs σ ρ H (g ds env η) Q
theorem PG.imp {X : Cx} {e : Expr} {t t' : TG} (h : PG X e t) (i : ∀ v σ H Q, t' v σ H Q → t v σ H Q) : PG X e t' := ⟨fun pins s σ H v u Q I r q => h.run pins s σ H v u Q I r (i v σ H Q q)⟩
theorem PGs.imp {X : Cx} {e : List Expr} {t t' : TGs} (h : PGs X e t) (i : ∀ v σ H Q, t' v σ H Q → t v σ H Q) : PGs X e t' := ⟨fun pins s σ H v u Q I r q => h.run pins s σ H v u Q I r (i v σ H Q q)⟩
section
variable {X : Cx} {a : Ad} {G : Gst} {W : L2.St → XK} {pos p : Pos} {xs : List Nat}
theorem OutG.ext {K : PySem.W.Frag} {ρ ρ1 : List Addr} {H H1 : Hp} {σ σ1 : L2.St} {Q : L2.St → Hp → Prop} (e : Ext ρ H ρ1 H1) (w : wipe σ1 xs = wipe σ xs) {r : R Ev} (h : OutG K a xs σ ρ H r Q) : OutG K a xs σ1 ρ1 H1 r Q := by
  cases r with
  | ok d η => exact fun ρ' H' v e' r' er' w' => h ρ' H' v (e.trans e') r' er' (w'.trans w)
  | _ => exact h
theorem wipe_in {σ : L2.St} {i : Nat} : ∀ {vs : List Nat}, i ∈ vs → (wipe σ vs)[i]? = σ[i]?.map fun _ => none
  | [], h => by cases h
  | v :: vs, h => by
    show ((wipe σ vs).set v none)[i]? = _
    by_cases q : v = i
    · subst q
      by_cases hl : v < σ.length
      · rw [List.getElem?_set_self (by rw [wipe_length]; exact hl), List.getElem?_eq_getElem hl]; rfl
      · rw [List.getElem?_eq_none (by rw [List.length_set, wipe_length]; omega), List.getElem?_eq_none (by omega)]; rfl
    · rw [List.getElem?_set_ne q]
      exact wipe_in ((List.mem_cons.mp h).resolve_left fun e => q e.symm)
theorem wipe_at {σ : L2.St} {i : Nat} : ∀ {vs : List Nat}, i ∉ vs → (wipe σ vs)[i]? = σ[i]?
  | [], _ => rfl
  | v :: vs, h => by
    show ((wipe σ vs).set v none)[i]? = _
    rw [List.getElem?_set_ne (fun e : v = i => h (by rw [e]; exact List.mem_cons_self))]
    exact wipe_at fun hm => h (List.mem_cons_of_mem _ hm)
theorem wipe_set {σ : L2.St} {i : Nat} {x : Option V} {vs : List Nat} (h : i ∈ vs) : wipe (σ.set i x) vs = wipe σ vs := by
  apply List.ext_getElem?
  intro j
  by_cases hj : j ∈ vs
  · rw [wipe_in hj, wipe_in hj]
    by_cases q : i = j
    · subst q
      by_cases hl : i < σ.length
      · rw [List.getElem?_set_self hl, List.getElem?_eq_getElem hl]; rfl
      · rw [List.getElem?_eq_none (by rw [List.length_set]; omega), List.getElem?_eq_none (by omega)]
    · rw [List.getElem?_set_ne q]
  · rw [wipe_at hj, wipe_at hj, List.getElem?_set_ne (fun e : i = j => hj (by rw [← e]; exact h))]
theorem s_gslot {x : Str} {i : Nat} (hN : X.N.Nodup) (hi : X.N[i]? = some x) (hv : i ∈ xs) (hx : Loc X.env.scope x) (hf : X.fn x = true ∨ X.env.scope.names.lookup x = some .local) : PG X (.Name x p) (tG X.K a xs (gSlot i)) := by
  refine PG.imp (pg_name hN hi hx hf) fun v σ H Q ⟨ρ, η, env, d, rel, er, rp, h⟩ => ?_
  exact h ρ H _ (Ext.refl _ _) rel (er.set i rp) (wipe_set hv)
theorem s_gnil : PGs X [] (tGs X.K a xs gsNil) := by
  refine PGs.imp pgs_nil fun vs σ H Q ⟨ρ, η, env, ds, rel, er, rp, h⟩ => ?_
  cases rp with
  | nil => exact ⟨rfl, h ρ H _ (Ext.refl _ _) rel er rfl⟩
  | cons _ _ => exact h.elim
theorem each_of {e : Expr} {es : List Expr} {env : Env} (h : noStar e = true) : assignEach (e :: es) env = (false, assign e env) :: assignEach es env := by cases e <;> first | rfl | cases h
theorem s_gcons {e : Expr} {es : List Expr} {g : Tgt} {t : Tgts} (hs : noStar e = true) (h1 : PG X e (tG X.K a xs g)) (h2 : PGs X es (tGs X.K a xs t)) : PGs X (e :: es) (tGs X.K a xs (gsCons g t)) := by
  refine PGs.imp (pgs_cons h1 h2 (by rw [each_of hs]; rfl)) fun vs σ H Q ⟨ρ, η, env, ds, rel, er, rp, h⟩ => ?_
  cases rp with
  | nil => exact h.elim
  | @cons d v ds vs r rs =>
    refine ⟨v, vs, rfl, ρ, η, env, d, rel, er, r, ?_⟩
    unfold gsCons at h
    cases q : g d env η with
    | ok env1 η1 =>
      simp only [R.bind, q] at h
      exact fun ρ1 H1 σ1 e1 r1 er1 w1 => ⟨ρ1, η1, env1, ds, r1, er1, rs.mono e1, OutG.ext e1 w1 h⟩
    | exc c η1 => simp only [R.bind, q] at h; exact h.elim
    | bad => simp only [R.bind, q] at h; exact h.elim
theorem each_len {env : Env} : ∀ {es : List Expr}, es.all noStar = true → (assignEach es env).length = es.length ∧ (assignEach es env).findIdx? (·.1) = none
  | [], _ => ⟨rfl, rfl⟩
  | e :: es, h => by
    rw [List.all_cons, Bool.and_eq_true] at h
    obtain ⟨h1, h2⟩ := each_len (env := env) (es := es) h.2
    rw [each_of h.1]
    refine ⟨congrArg Nat.succ h1, ?_⟩
    rw [List.findIdx?_cons, h2]
    rfl
theorem s_gtup {es : List Expr} {k : Nat} {t : Tgts} (hc : X.calm = true) (hs : es.all noStar = true) (h : PGs X es (tGs X.K a xs t)) : PG X (.Tuple es k pos) (tG X.K a xs (gTupl es.length t)) := by
  obtain ⟨l1, l2⟩ := each_len (env := X.env) hs
  refine PG.imp (pg_tup hc h l1 l2) fun v σ H Q ⟨ρ, η, env, d, rel, er, rp, h⟩ => ?_
  cases d with
  | tup zs =>
    obtain ⟨q, vs, rfl, h1, h2⟩ := rp.sqT
    have h : OutG X.K a xs σ ρ H (if zs.length = es.length then t zs env η else .bad) Q := h
    by_cases hl : zs.length = es.length
    · rw [if_pos hl] at h
      exact ⟨q, vs, rfl, h1, by rw [← h2.length]; exact hl, ρ, η, env, zs, rel, er, h2, h⟩
    · rw [if_neg hl] at h
      exact h.elim
  | _ => exact h.elim
/-! ### fields -/
theorem putF_reps {K : PySem.W.Frag} {ρ : List Addr} {H : Hp} {d : D} {v : V} (f : Str) (h : Rep K ρ H d v) : ∀ {fs : List (Str × D)} {fv : List (Str × V)}, fs.map (·.1) = fv.map (·.1) → Reps K ρ H (fs.map (·.2)) (fv.map (·.2)) →
    (En.putF f d fs).map (·.1) = (L2.putF f v fv).map (·.1) ∧ Reps K ρ H ((En.putF f d fs).map (·.2)) ((L2.putF f v fv).map (·.2))
  | [], [], _, _ => ⟨rfl, .cons h .nil⟩
  | [], _ :: _, e, _ => by simp at e
  | _ :: _, [], e, _ => by simp at e
  | (k, d1) :: r, (k2, v1) :: r2, e, rp => by
    rw [List.map_cons, List.map_cons] at e
    obtain ⟨e1, e2⟩ := List.cons.inj e
    have e1 : k = k2 := e1
    subst e1
    cases rp with
    | cons h1 h2 =>
      obtain ⟨i1, i2⟩ := putF_reps f h e2 h2
      unfold En.putF L2.putF
      by_cases q : k = f
      · rw [if_pos q, if_pos q]
        exact ⟨congrArg _ e2, .cons h h2⟩
      · rw [if_neg q, if_neg q]
        exact ⟨congrArg (List.cons k) i1, .cons h1 i2⟩
theorem noExc_bind {α β : Type} {r : R α} {k : α → Hv → R β} {P : R β → Prop} (hb : ¬ P .bad) (h : P ((noExc r).bind k)) : ∃ d η, r = .ok d η ∧ P (k d η) := by
  cases r with
  | ok d η => exact ⟨d, η, rfl, h⟩
  | exc c η => exact absurd h hb
  | bad => exact absurd h hb
/-- an object's field is put -/
theorem Rel.putFld {K : PySem.W.Frag} {ρ : List Addr} {η : Hv} {H : Hp} {i c : Nat} {fs : List (Str × D)} {q dx : Addr} {fv : List (Str × V)} {d : D} {v : V} {f : Str} (rel : Rel K a.C ρ η H) (hq : ρ[i]? = some q) (rp : Rep K ρ H d v) (e : fs.map (·.1) = fv.map (·.1)) (r : Reps K ρ H (fs.map (·.2)) (fv.map (·.2))) :
    Rel K a.C ρ (η.set i (.ins c (En.putF f d fs))) (upd H q (.ins (a.C c) dx (L2.putF f v fv))) ∧ Ext ρ H ρ (upd H q (.ins (a.C c) dx (L2.putF f v fv))) := by
  have ex : Ext ρ H ρ (upd H q (.ins (a.C c) dx (L2.putF f v fv))) := Ext.put (List.mem_of_getElem? hq)
  obtain ⟨h1, h2⟩ := putF_reps f rp e r
  exact ⟨rel.put hq ⟨dx, _, upd_same, h1, h2.mono ex⟩, ex⟩
theorem s_gfld {o : Expr} {f : Str} {m : Exp} (hn : ∀ c, G.noat c f = true → Cls X.K (a.C c) ∧ NoAttr X.K (a.C c) f) (h : PE X o (tE X.K a W m)) : PG X (.Attribute o f pos) (tG X.K a xs (gFld G f m)) := by
  refine ⟨fun pins s σ H v u Q I ru ⟨ρ, η, env, d, rel, er, rp, h9⟩ => ?_⟩
  obtain ⟨x, η1, qm, h9⟩ := noExc_bind (P := fun r => OutG X.K a xs σ ρ H r Q) (fun z => z) h9
  rw [assign_Attribute]
  refine wpAny_bind (wpAny_holding (thn (h.run pins s σ H (fun y H1 => ∃ ρ1, Ext ρ H ρ1 H1 ∧ Rel X.K a.C ρ1 η1 H1 ∧ Rep X.K ρ1 H1 x y) I ⟨ρ, η, env, rel, er, ?_⟩) fun ov s1 ⟨y, H1, I1, ry, ρ1, e1, r1, p1⟩ => ?_))
  · rw [qm]
    exact fun ρ1 H1 v1 e1 r1 p1 => ⟨ρ1, e1, r1, p1⟩
  · refine wpAny_bind (wpAny_standAt (wpAny_bind (wpAny_holding ?_)))
    have h9 := OutG.ext e1 rfl h9
    split at h9
    · rename_i i
      split at h9
      · rename_i c fs q
        obtain ⟨z, dx, fv, rfl, hz, h2, h3, h4⟩ := r1.ins q p1
        cases ry
        by_cases hc : (G.noat c f && decide (fs.length < 900)) = true
        · rw [if_pos hc] at h9
          rw [Bool.and_eq_true] at hc
          have hl := of_decide_eq_true hc.2
          have hl2 := congrArg List.length h3
          rw [List.length_map, List.length_map] at hl2
          obtain ⟨r2, e2⟩ := r1.putFld (c := c) (f := f) (dx := dx) hz (rp.mono e1) h3 h4
          refine setattr_ok I1 h2 (hn c hc.1).1 (hn c hc.1).2 (by omega) ru fun s2 I2 => wpAny_release ?_
          exact ⟨σ, _, I2, h9 _ _ _ e2 r2 ((er.mono e1).mono e2) rfl⟩
        · rw [if_neg hc] at h9
          exact h9.elim
      · exact h9.elim
    · exact h9.elim
/-! ### items -/
theorem any_keys {α : Type} (k : Key) : ∀ (kvs : List (Key × α)), (kvs.any fun kv => decide (kv.1 = k)) = ((kvs.map (·.1)).any fun x => decide (x = k))
  | [] => rfl
  | x :: r => by rw [List.any_cons, List.map_cons, List.any_cons, any_keys k r]
theorem putK_map {K : PySem.W.Frag} {ρ : List Addr} {H : Hp} {d : D} {v : V} (k : Key) (h : Rep K ρ H d v) : ∀ {kvs : List (Key × D)} {kv : List (Key × V)}, kvs.map (·.1) = kv.map (·.1) → Reps K ρ H (kvs.map (·.2)) (kv.map (·.2)) →
    (kvs.map fun x => if x.1 = k then (x.1, d) else x).map (·.1) = (kv.map fun x => if x.1 = k then (x.1, v) else x).map (·.1) ∧ Reps K ρ H ((kvs.map fun x => if x.1 = k then (x.1, d) else x).map (·.2)) ((kv.map fun x => if x.1 = k then (x.1, v) else x).map (·.2))
  | [], [], _, _ => ⟨rfl, .nil⟩
  | [], _ :: _, e, _ => by simp at e
  | _ :: _, [], e, _ => by simp at e
  | (k1, d1) :: r, (k2, v1) :: r2, e, rp => by
    rw [List.map_cons, List.map_cons] at e
    obtain ⟨e1, e2⟩ := List.cons.inj e
    have e1 : k1 = k2 := e1
    subst e1
    cases rp with
    | cons h1 h2 =>
      obtain ⟨i1, i2⟩ := putK_map k h e2 h2
      simp only [List.map_cons]
      by_cases q : k1 = k
      · simp only [if_pos q]
        exact ⟨congrArg (List.cons k1) i1, .cons h i2⟩
      · simp only [if_neg q]
        exact ⟨congrArg (List.cons k1) i1, .cons h1 i2⟩
theorem putK_reps {K : PySem.W.Frag} {ρ : List Addr} {H : Hp} {d : D} {v : V} (k : Key) (h : Rep K ρ H d v) {kvs : List (Key × D)} {kv : List (Key × V)} (e : kvs.map (·.1) = kv.map (·.1)) (r : Reps K ρ H (kvs.map (·.2)) (kv.map (·.2))) :
    (putKD kvs k d).map (·.1) = (putK kv k v).map (·.1) ∧ Reps K ρ H ((putKD kvs k d).map (·.2)) ((putK kv k v).map (·.2)) := by
  unfold putKD putK
  rw [any_keys k kvs, any_keys k kv, e]
  by_cases q : ((kv.map (·.1)).any fun x => decide (x = k)) = true
  · rw [if_pos q, if_pos q]
    exact putK_map k h e r
  · rw [if_neg q, if_neg q, List.map_append, List.map_append, List.map_append, List.map_append, e]
    exact ⟨rfl, r.app (.cons h .nil)⟩
/-- o[i] = d -/
theorem set_of (hu : X.A.units + 65 < cLine) : ∃ t, PSet X t ∧ ∀ (ρ : List Addr) (η η' : Hv) (H : Hp) (o i d : D) (ov iv v : V) (Q : Hp → Prop), Rel X.K a.C ρ η H → Rep X.K ρ H o ov → Rep X.K ρ H i iv → Rep X.K ρ H d v → setItemD o i d η = .ok () η' →
    (∀ H', Ext ρ H ρ H' → Rel X.K a.C ρ η' H' → Q H') → t ov iv v H Q := by
  refine ⟨fun o i v H Q => rSetL o i v H Q ∨ rSetD o i v H Q, fun pins s σ H o i v ov iv u Q I ro ri rv h => ?_, fun ρ η η' H o i d ov iv v Q rel po pi pd he hq => ?_⟩
  · rcases h with h | h
    · exact set_list pins s σ H o i v ov iv u Q I ro ri rv h
    · exact set_dict (by omega) pins s σ H o i v ov iv u Q I ro ri rv h
  · unfold setItemD at he
    split at he
    · rename_i q
      split at he
      · rename_i xs k e1
        split at he
        · rename_i j hj
          cases he
          obtain ⟨z, vs, rfl, hz, h1, h2⟩ := rel.lst e1 po
          have ex : Ext ρ H ρ (upd H z (.lst (vs.set j v))) := Ext.put (List.mem_of_getElem? hz)
          refine .inl ⟨z, vs, k, j, rfl, pi.intv, h1, by rw [← h2.length]; exact hj, hq _ ex (rel.put hz ⟨_, upd_same, ?_⟩)⟩
          exact (Reps.set pd j h2).mono ex
        · cases he
      · rename_i kvs e1
        split at he
        · rename_i k hk
          by_cases hl : kvs.length < sizeLine
          · rw [if_pos hl] at he
            cases he
            obtain ⟨z, kv, rfl, hz, h1, h2, h3⟩ := rel.dct e1 po
            have hl2 := congrArg List.length h2
            rw [List.length_map, List.length_map] at hl2
            obtain ⟨h4, h5⟩ := putK_reps k pd h2 h3
            have ex : Ext ρ H ρ (upd H z (.dK (putK kv k v))) := Ext.put (List.mem_of_getElem? hz)
            refine .inr ⟨z, _, rfl, .inl ⟨kv, k, h1, keyV hk pi, by omega, rfl⟩, hq _ ex (rel.put hz ⟨_, upd_same, h4, h5.mono ex⟩)⟩
          · rw [if_neg hl] at he
            cases he
        · cases he
      · cases he
    · cases he
theorem sub_tree {o i : Expr} (h : noSlice i = true) (env : Env) (v : Value) : assign (.Subscript o i pos) env v = (do
      let ov ← holding [v] (eval o env)
      let iv ← holding [v, ov] (eval i env)
      standAt pos
      holding [v, ov, iv] (setItem ov iv v)
      release [v, ov, iv] []) := by
  cases i <;> first | rfl | cases h
theorem s_gix {o i : Expr} {m n : Exp} (hu : X.A.units + 65 < cLine) (hs : noSlice i = true) (ho : PE X o (tE X.K a W m)) (hi : PE X i (tE X.K a W n)) : PG X (.Subscript o i pos) (tG X.K a xs (gIx m n)) := by
  obtain ⟨t, ht, hs2⟩ := set_of (X := X) (a := a) hu
  refine PG.imp (pg_sub ho hi ht (sub_tree hs X.env)) fun v σ H Q ⟨ρ, η, env, d, rel, er, rp, h⟩ => ?_
  obtain ⟨x, η1, qm, h⟩ := noExc_bind (P := fun r => OutG X.K a xs σ ρ H r Q) (fun z => z) h
  obtain ⟨y, η2, qn, h⟩ := noExc_bind (P := fun r => OutG X.K a xs σ ρ H r Q) (fun z => z) h
  refine ⟨ρ, η, env, rel, er, ?_⟩
  rw [qm]
  refine fun ρ1 H1 ov e1 r1 p1 => ⟨ρ1, η1, env, r1, er.mono e1, ?_⟩
  rw [qn]
  refine fun ρ2 H2 iv e2 r2 p2 => ?_
  have h := OutG.ext (e1.trans e2) rfl h
  cases qs : setItemD x y d η2 with
  | ok u η3 =>
    rw [qs] at h
    exact hs2 ρ2 η2 η3 H2 x y d ov iv v _ r2 (p1.mono e2) p2 (rp.mono (e1.trans e2)) qs fun H3 e3 r3 => h ρ2 H3 σ e3 r3 (er.mono ((e1.trans e2).trans e3)) rfl
  | exc c η3 => rw [qs] at h; exact h.elim
  | bad => rw [qs] at h; exact h.elim
/-! ### a, *b = a tuple -/
theorem star_tup {prog : Program} {w : World} {A : Around} {E : Value → Shared → Prop} {s : Shared} {t : Addr} {u : Value} {us : List Value} {Q : List Value → Shared → Prop} (hh : A.handled = none) (ht : IsTup s.heap t (u :: us).toArray) (hz : us.length ≤ 16000)
    (hQ : ∀ (h2 : Heap) (tk : Nat), (∀ b o, s.heap.get? b = some o → h2.get? b = some o) → Q [u, .ref h2.objs.size] { s with heap := h2.push { cls := .type "list", data := .seq us.toArray }, toks := tk }) : wpAny (model prog w) A (unpackItems (.ref t) 2 (some 1)) Q E s := by
  have ne : t ≠ s.heap.objs.size := let ⟨_, e, _⟩ := ht; Nat.ne_of_lt (Heap.lt_size e)
  have hsz : (u :: us).toArray.size = us.length + 1 := by rw [List.size_toArray]; rfl
  unfold unpackItems notIterableAtAll
  refine wpAny_bind (wpAny_bind (wpAny_specialOf ht.typeIs slot_tuple_iter.lookup (wpAny_pure ?_)))
  rw [if_neg (by decide)]
  refine wpAny_bind (wpAny_holding (iter_tuple ht ?_))
  refine wpAny_bind (wpAny_holding (draw_tuple ne 1 0 _ _ ⟨_, Heap.get?_push_size _ rfl, rfl, rfl⟩ (ht.push _) (by rw [hsz]; omega) fun h1 it1 sb1 => ?_))
  have ht1 : IsTup h1 t (u :: us).toArray := (ht.push _).extBut sb1.extBut ne
  have l1 : t < h1.objs.size := let ⟨_, e, _⟩ := ht1; Heap.lt_size e
  have l2 : s.heap.objs.size < h1.objs.size := let ⟨_, e, _⟩ := it1; Heap.lt_size e
  show wpAny _ _ (if ([u] : List Value).length < 1 then _ else _) _ _ _
  rw [if_neg (show ¬ ([u] : List Value).length < 1 from Nat.lt_irrefl 1)]
  refine wpAny_bind (wpAny_holding (PySem.W.kun_collect (s := { s with heap := h1 }) (T := "tuple_iterator") (.inr (.inr (.inr rfl))) (Walks.tuple (A := A.in1) hh s.heap.objs.size t ne (u :: us).toArray) (fun j z st => st.1.typeIs) (k := 1) (by rw [hsz]; omega) ⟨it1, ht1⟩ l2 l1 (fun h2 tk hk => ?_) (by rw [hsz, sizeLine_eq]; omega)))
  show wpAny _ _ (if us.length < 2 - 1 - 1 then _ else _) _ _ _
  rw [if_neg (by omega)]
  show wpAny _ _ (newList (us.take (us.length - (2 - 1 - 1))) >>= fun d => pure ([u] ++ [d] ++ us.drop (us.length - (2 - 1 - 1)))) _ _ _
  have e0 : us.length - (2 - 1 - 1) = us.length := by omega
  rw [e0, List.take_length, List.drop_length]
  have kp : ∀ b o, s.heap.get? b = some o → h2.get? b = some o := fun b o e => hk b o (Nat.ne_of_lt (Heap.lt_size e)) (sb1.extBut b o (Nat.ne_of_lt (Heap.lt_size e)) (Heap.get?_push_of_some _ e))
  exact wpAny_bind (wpAny_newObj_type (wpAny_pure (hQ h2 tk kp)) (by size_fits))
theorem star_lst {prog : Program} {w : World} {A : Around} {E : Value → Shared → Prop} {s : Shared} {t : Addr} {u : Value} {us : List Value} {Q : List Value → Shared → Prop} (hh : A.handled = none) (ht : s.heap.IsList t (u :: us).toArray) (hz : us.length ≤ 16000)
    (hQ : ∀ (h2 : Heap) (tk : Nat), (∀ b o, s.heap.get? b = some o → h2.get? b = some o) → Q [u, .ref h2.objs.size] { s with heap := h2.push { cls := .type "list", data := .seq us.toArray }, toks := tk }) : wpAny (model prog w) A (unpackItems (.ref t) 2 (some 1)) Q E s := by
  have ne : t ≠ s.heap.objs.size := let ⟨_, e, _⟩ := ht; Nat.ne_of_lt (Heap.lt_size e)
  have hsz : (u :: us).toArray.size = us.length + 1 := by rw [List.size_toArray]; rfl
  unfold unpackItems notIterableAtAll
  refine wpAny_bind (wpAny_bind (wpAny_specialOf ht.typeIs slot_list_iter.lookup (wpAny_pure ?_)))
  rw [if_neg (by decide)]
  refine wpAny_bind (wpAny_holding (wpAny_pyIter_list ht ?_))
  refine wpAny_bind (wpAny_holding (PySem.W.kun_draw ne 1 0 _ _ ⟨_, Heap.get?_push_size _ rfl, rfl, rfl⟩ (ht.push _) (by rw [hsz]; omega) fun h1 it1 sb1 => ?_))
  have ht1 : h1.IsList t (u :: us).toArray := (ht.push _).extBut sb1.extBut ne
  have l1 : t < h1.objs.size := let ⟨_, e, _⟩ := ht1; Heap.lt_size e
  have l2 : s.heap.objs.size < h1.objs.size := let ⟨_, e, _⟩ := it1; Heap.lt_size e
  show wpAny _ _ (if ([u] : List Value).length < 1 then _ else _) _ _ _
  rw [if_neg (show ¬ ([u] : List Value).length < 1 from Nat.lt_irrefl 1)]
  refine wpAny_bind (wpAny_holding (PySem.W.kun_collect (s := { s with heap := h1 }) (T := "list_iterator") (.inr (.inr (.inl rfl))) (Walks.list (A := A.in1) hh s.heap.objs.size t ne (u :: us).toArray) (fun j z st => st.1.typeIs) (k := 1) (by rw [hsz]; omega) ⟨it1, ht1⟩ l2 l1 (fun h2 tk hk => ?_) (by rw [hsz, sizeLine_eq]; omega)))
  show wpAny _ _ (if us.length < 2 - 1 - 1 then _ else _) _ _ _
  rw [if_neg (by omega)]
  show wpAny _ _ (newList (us.take (us.length - (2 - 1 - 1))) >>= fun d => pure ([u] ++ [d] ++ us.drop (us.length - (2 - 1 - 1)))) _ _ _
  have e0 : us.length - (2 - 1 - 1) = us.length := by omega
  rw [e0, List.take_length, List.drop_length]
  have kp : ∀ b o, s.heap.get? b = some o → h2.get? b = some o := fun b o e => hk b o (Nat.ne_of_lt (Heap.lt_size e)) (sb1.extBut b o (Nat.ne_of_lt (Heap.lt_size e)) (Heap.get?_push_of_some _ e))
  exact wpAny_bind (wpAny_newObj_type (wpAny_pure (hQ h2 tk kp)) (by size_fits))
theorem star_both {prog : Program} {w : World} {A : Around} {E : Value → Shared → Prop} {s : Shared} {t : Addr} {u : Value} {us : List Value} {Q : List Value → Shared → Prop} (hh : A.handled = none) (ht : IsTup s.heap t (u :: us).toArray ∨ s.heap.IsList t (u :: us).toArray) (hz : us.length ≤ 16000)
    (hQ : ∀ (h2 : Heap) (tk : Nat), (∀ b o, s.heap.get? b = some o → h2.get? b = some o) → Q [u, .ref h2.objs.size] { s with heap := h2.push { cls := .type "list", data := .seq us.toArray }, toks := tk }) : wpAny (model prog w) A (unpackItems (.ref t) 2 (some 1)) Q E s :=
  ht.elim (fun h => star_tup hh h hz hQ) fun h => star_lst hh h hz hQ
theorem star_at {K : PySem.W.Frag} {ρ : List Addr} {η : Hv} {H : Hp} {d x : D} {r : List D} {v : V} (rel : Rel K a.C ρ η H) (rp : Rep K ρ H d v) (h : starOf η d = some (x, r)) : ∃ t vs, v = .ref t ∧ (SqT K H t vs ∨ SqL K H t vs) ∧ Reps K ρ H (x :: r) vs := by
  have lists : (match lstOf η d with
    | some (x :: r) => some (x, r)
    | _ => none) = some (x, r) → ∃ t vs, v = .ref t ∧ (SqT K H t vs ∨ SqL K H t vs) ∧ Reps K ρ H (x :: r) vs := fun h => by
    split at h
    · rename_i x' r' q
      cases h
      obtain ⟨t, vs, e, h1, h2⟩ := rel.lstOf q rp
      exact ⟨t, vs, e, .inr (.inl (.inl h1)), h2⟩
    · cases h
  cases d with
  | tup xs =>
    cases xs with
    | nil => cases h
    | cons y ys =>
      cases h
      obtain ⟨t, vs, e, h1, h2⟩ := rp.sqT
      exact ⟨t, vs, e, .inl h1, h2⟩
  | _ => exact lists h
theorem s_gstar {x y : Str} {px py ps : Pos} {k i j : Nat} (hc : X.calm = true) (h1 : PG X (.Name x px) (tG X.K a xs (gSlot i))) (h2' : PG X (.Name y py) (tG X.K a xs (gSlot j))) : PG X (.Tuple [.Name x px, .Starred (.Name y py) ps] k pos) (tG X.K a xs (gStar1 (gSlot i) (gSlot j))) := by
  refine ⟨fun pins s σ H v u Q I ru ⟨ρ, η, env, d, rel, er, rp, h⟩ => ?_⟩
  unfold gStar1 at h
  split at h
  · rename_i d1 r hst
    by_cases hz : r.length ≤ 16000
    · rw [if_pos hz] at h
      obtain ⟨t, vs, rfl, hq, hr⟩ := star_at rel rp hst
      cases ru
      cases hr with
      | @cons _ v1 _ vr p1 pr =>
        obtain ⟨its, rv, ht⟩ : ∃ its, Vals (v1 :: vr) its ∧ (IsTup s.heap t its.toArray ∨ s.heap.IsList t its.toArray) := by
          rcases hq with hq | hq
          · obtain ⟨its, rv, ht, _⟩ := I.tuple hq
            exact ⟨its, rv, .inl ht⟩
          · obtain ⟨its, rv, ht, _⟩ := I.list hq
            exact ⟨its, rv, .inr ht.isList⟩
        cases rv with
        | @cons _ u1 _ ur ru1 rur =>
          rw [assign_Tuple]
          refine wpAny_bind (wpAny_standAt ?_)
          unfold unpack
          refine wpAny_bind (wpAny_holding (star_both (I.ok.hd hc) ht (by rw [← rur.length, ← pr.length]; exact hz) fun h2 tk kp => ?_))
          show wpAny _ _ (assignInOrder [assign (.Name x px) X.env, assign (.Name y py) X.env] [u1, .ref h2.objs.size]) _ _ _
          have I1 : Inv X pins σ H { s with heap := h2, toks := tk } := I.kept kp
          have nn : H h2.objs.size = none := I1.fresh
          have hzz : vr.length ≤ sizeLine := by rw [← pr.length, sizeLine_eq]; omega
          have I2 : Inv X pins σ (upd H h2.objs.size (.lst vr)) { s with heap := h2.push { cls := .type "list", data := .seq ur.toArray }, toks := tk } := I1.lnew rur hzz
          have ex := Ext.alloc (o := .lst vr) nn (rel.free nn)
          have r2 := rel.alloc (u := .lst vr) (o := .lst r) nn ⟨vr, upd_same, pr.mono ex⟩
          refine assignInOrder_cons (thn (h1.run pins _ σ _ v1 u1 (fun σ1 H1 => ∃ ρ1 η1 env1, gSlot i d1 env (η ++ [.lst r]) = .ok env1 η1 ∧ Ext (ρ ++ [h2.objs.size]) (upd H h2.objs.size (.lst vr)) ρ1 H1 ∧ Rel X.K a.C ρ1 η1 H1 ∧ EnvR X.K ρ1 H1 env1 σ1 ∧ wipe σ1 xs = wipe σ xs) I2 ru1 ⟨_, _, env, d1, r2, er.mono ex, p1.mono ex, ?_⟩) fun _ s1 ⟨σ1, H1, I3, ρ1, η1, env1, eq1, e1, r3, er1, w1⟩ => ?_)
          · exact fun ρ1 H1 σ1 e1 r1 er1 w1 => ⟨ρ1, _, _, rfl, e1, r1, er1, w1⟩
          · rw [eq1] at h
            refine assignInOrder_cons (thn (h2'.run pins s1 σ1 H1 (.ref h2.objs.size) (.ref h2.objs.size) Q I3 rfl ⟨ρ1, η1, env1, .ref η.length, r3, er1, .ref (e1.at ?_), OutG.ext (ex.trans e1) w1 h⟩) fun _ s2 q => ?_)
            · rw [List.getElem?_append_right (by rw [rel.len]; exact Nat.le_refl _), rel.len, Nat.sub_self]; rfl
            · exact assignInOrder_nil q
    · rw [if_neg hz] at h
      exact h.elim
  · exact h.elim
theorem s_gstarF {x y : Str} {px py ps : Pos} {k i j : Nat} (hc : X.calm = true) (h1 : PG X (.Name x px) (tG X.K a xs (gSlot i))) (h2' : PG X (.Name y py) (tG X.K a xs (gSlot j))) : PG X (.Tuple [.Name x px, .Starred (.Name y py) ps] k pos) (tG X.K a xs (gStarF (gSlot i) (gSlot j))) := by
  refine ⟨fun pins s σ H v u Q I ru ⟨ρ, η, env, d, rel, er, rp, h⟩ => ?_⟩
  unfold gStarF at h
  split at h
  · rename_i d1 r hst
    by_cases hz : r.length ≤ 16000
    · rw [if_pos hz] at h
      obtain ⟨t, vs, rfl, hq, hr⟩ := star_at rel rp hst
      cases ru
      cases hr with
      | @cons _ v1 _ vr p1 pr =>
        obtain ⟨its, rv, ht⟩ : ∃ its, Vals (v1 :: vr) its ∧ (IsTup s.heap t its.toArray ∨ s.heap.IsList t its.toArray) := by
          rcases hq with hq | hq
          · obtain ⟨its, rv, ht, _⟩ := I.tuple hq
            exact ⟨its, rv, .inl ht⟩
          · obtain ⟨its, rv, ht, _⟩ := I.list hq
            exact ⟨its, rv, .inr ht.isList⟩
        cases rv with
        | @cons _ u1 _ ur ru1 rur =>
          rw [assign_Tuple]
          refine wpAny_bind (wpAny_standAt ?_)
          unfold unpack
          refine wpAny_bind (wpAny_holding (star_both (I.ok.hd hc) ht (by rw [← rur.length, ← pr.length]; exact hz) fun h2 tk kp => ?_))
          show wpAny _ _ (assignInOrder [assign (.Name x px) X.env, assign (.Name y py) X.env] [u1, .ref h2.objs.size]) _ _ _
          have I1 : Inv X pins σ H { s with heap := h2, toks := tk } := I.kept kp
          have nn : H h2.objs.size = none := I1.fresh
          have hzz : vr.length ≤ sizeLine := by rw [← pr.length, sizeLine_eq]; omega
          have I2 : Inv X pins σ (upd H h2.objs.size (.lst vr)) { s with heap := h2.push { cls := .type "list", data := .seq ur.toArray }, toks := tk } := I1.lnew rur hzz
          have ex := Ext.new (o := .lst vr) rel nn
          have r2 := rel.new (o := .lst vr) nn
          refine assignInOrder_cons (thn (h1.run pins _ σ _ v1 u1 (fun σ1 H1 => ∃ ρ1 η1 env1, gSlot i d1 env η = .ok env1 η1 ∧ Ext ρ (upd H h2.objs.size (.lst vr)) ρ1 H1 ∧ Rel X.K a.C ρ1 η1 H1 ∧ EnvR X.K ρ1 H1 env1 σ1 ∧ wipe σ1 xs = wipe σ xs) I2 ru1 ⟨_, _, env, d1, r2, er.mono ex, p1.mono ex, ?_⟩) fun _ s1 ⟨σ1, H1, I3, ρ1, η1, env1, eq1, e1, r3, er1, w1⟩ => ?_)
          · exact fun ρ1 H1 σ1 e1 r1 er1 w1 => ⟨ρ1, _, _, rfl, e1, r1, er1, w1⟩
          · rw [eq1] at h
            refine assignInOrder_cons (thn (h2'.run pins s1 σ1 H1 (.ref h2.objs.size) (.ref h2.objs.size) Q I3 rfl ⟨ρ1, η1, env1, .lst r, r3, er1, ?_, OutG.ext (ex.trans e1) w1 h⟩) fun _ s2 q => ?_)
            · exact Rep.mono e1 (.lst upd_same (rel.free nn) (pr.mono ex))
            · exact assignInOrder_nil q
    · rw [if_neg hz] at h
      exact h.elim
  · exact h.elim
theorem s_gbad {e : Expr} : PG X e (tG X.K a xs gBad) := ⟨fun pins s σ H v u Q I r ⟨ρ, η, env, d, rel, er, rp, h⟩ => h.elim⟩
end
end En
end

section
set_option maxRecDepth 100000
set_option maxHeartbeats 2000000
/-! EN: what is walked; loops; comprehensions. -/
namespace En
open PySem PySem.Spec PyProof.Rows L2
/-- an iterator of the layer does what the evaluator's does -/
structure ItOk (K : PySem.W.Frag) (a : Ad) (it : Itv) (J : It) (ρ : List Addr) (H : Hp) : Prop where
  stop : ∀ ρ2 η2 H2 k, Ext ρ H ρ2 H2 → Rel K a.C ρ2 η2 H2 → nextI it k η2 = some none → J.stop k H2
  go : ∀ ρ2 η2 H2 k d, Ext ρ H ρ2 H2 → Rel K a.C ρ2 η2 H2 → nextI it k η2 = some (some d) → J.go k H2 ∧ ∀ x H', J.yld k H2 x H' → Ext ρ2 H2 ρ2 H' ∧ Rel K a.C ρ2 η2 H' ∧ Rep K ρ2 H' d x
def tI (K : PySem.W.Frag) (a : Ad) (W : L2.St → XK) (i : Iex) : TI := fun σ H R => ∃ ρ η env, Rel K a.C ρ η H ∧ EnvR K ρ H env σ ∧ match i env η with
  | .ok it η1 => ∀ ρ1 H1 J, Ext ρ H ρ1 H1 → Rel K a.C ρ1 η1 H1 → ItOk K a it J ρ1 H1 → R J H1
  | .exc c η1 => ∀ ρ' H', Ext ρ H ρ' H' → Rel K a.C ρ' η1 H' → W σ (.ref (a.X c)) none H'
  | .bad => False
theorem PI.imp {X : Cx} {tg e : Expr} {t t' : TI} (h : PI X tg e t) (i : ∀ σ H Q, t' σ H Q → t σ H Q) : PI X tg e t' := ⟨fun pins s σ H Q I q => h.run pins s σ H Q I (i σ H Q q)⟩
section
variable {X : Cx} {a : Ad} {G : Gst} {W : L2.St → XK} {pos p : Pos}
theorem Reps.getNone {K : PySem.W.Frag} {ρ : List Addr} {H : Hp} {ds : List D} {vs : List V} {i : Nat} (r : Reps K ρ H ds vs) (h : ds[i]? = none) : vs.length ≤ i := by
  rw [← r.length]
  exact List.getElem?_eq_none_iff.mp h
theorem it_range {K : PySem.W.Frag} {lo : Int} {n : Nat} {ρ : List Addr} {H : Hp} : ItOk K a (.rng lo n) (Itr lo n) ρ H := by
  refine ⟨fun ρ2 η2 H2 k e r h => ?_, fun ρ2 η2 H2 k d e r h => ?_⟩
  · simp only [nextI] at h
    by_cases q : k < n
    · rw [if_pos q] at h; cases h
    · exact Nat.le_of_not_lt q
  · simp only [nextI] at h
    by_cases q : k < n
    · rw [if_pos q] at h
      cases h
      refine ⟨q, fun x H' ⟨e1, e2⟩ => ?_⟩
      subst e1 e2
      exact ⟨Ext.refl _ _, r, .int _⟩
    · rw [if_neg q] at h; cases h
theorem it_str {K : PySem.W.Frag} {s : Str} {ρ : List Addr} {H : Hp} : ItOk K a (.str s) (Its s) ρ H := by
  refine ⟨fun ρ2 η2 H2 k e r h => ?_, fun ρ2 η2 H2 k d e r h => ?_⟩
  · simp only [nextI] at h
    cases q : s.cps[k]? with
    | none => exact Array.getElem?_eq_none_iff.mp q
    | some c => rw [q] at h; cases h
  · simp only [nextI] at h
    cases q : s.cps[k]? with
    | none => rw [q] at h; cases h
    | some c =>
      rw [q] at h
      cases h
      refine ⟨(Array.getElem?_eq_some_iff.mp q).1, fun x H' ⟨e1, c', e2, e3⟩ => ?_⟩
      rw [q] at e2
      cases e2
      subst e1 e3
      exact ⟨Ext.refl _ _, r, .str _⟩
/-- a list that is walked: where it stands, then and later -/
def LAt (K : PySem.W.Frag) (a : Ad) (d : D) (q : Addr) (ρ : List Addr) (H : Hp) : Prop := ∀ ρ2 η2 H2 ys, Ext ρ H ρ2 H2 → Rel K a.C ρ2 η2 H2 → seqOf η2 d = some ys → ∃ us, SqL K H2 q us ∧ Reps K ρ2 H2 ys us
def TAt (K : PySem.W.Frag) (a : Ad) (d : D) (q : Addr) (ρ : List Addr) (H : Hp) : Prop := ∀ ρ2 η2 H2 ys, Ext ρ H ρ2 H2 → Rel K a.C ρ2 η2 H2 → seqOf η2 d = some ys → ∃ us, SqT K H2 q us ∧ Reps K ρ2 H2 ys us
theorem seq_walk {K : PySem.W.Frag} {ρ : List Addr} {η : Hv} {H : Hp} {d : D} {v : V} {xs : List D} (rel : Rel K a.C ρ η H) (h : seqOf η d = some xs) (rp : Rep K ρ H d v) :
    ∃ q, v = .ref q ∧ ((kindL η d = some true ∧ LAt K a d q ρ H) ∨ (kindL η d = some false ∧ TAt K a d q ρ H)) := by
  cases rp with
  | tup h0 n r => exact ⟨_, rfl, .inr ⟨rfl, fun ρ2 η2 H2 ys e _ h2 => by cases h2; exact ⟨_, .inl (e.rd h0 n).1, r.mono e⟩⟩⟩
  | ktup h0 r => exact ⟨_, rfl, .inr ⟨rfl, fun ρ2 η2 H2 ys e _ h2 => by cases h2; exact ⟨_, .inr h0, r.mono e⟩⟩⟩
  | lst h0 n r => exact ⟨_, rfl, .inl ⟨rfl, fun ρ2 η2 H2 ys e _ h2 => by cases h2; exact ⟨_, .inl (.inl (e.keep _ _ h0 (fun _ z => nomatch z) n)), r.mono e⟩⟩⟩
  | scr h0 n r => exact ⟨_, rfl, .inl ⟨rfl, fun ρ2 η2 H2 ys e _ h2 => by cases h2; exact ⟨_, .inl (e.rd h0 n).1, r.mono e⟩⟩⟩
  | kscr h0 r => exact ⟨_, rfl, .inl ⟨rfl, fun ρ2 η2 H2 ys e _ h2 => by cases h2; exact ⟨_, .inr h0, r.mono e⟩⟩⟩
  | @ref i q h0 =>
    refine ⟨_, rfl, .inl ⟨?_, fun ρ2 η2 H2 ys e rel2 h2 => ?_⟩⟩
    · show (lstOf η (.ref i)).map (fun _ => true) = some true
      rw [show lstOf η (.ref i) = some xs from h]
      rfl
    · obtain ⟨z, us, e3, h3, h4⟩ := rel2.lstOf (show lstOf η2 (.ref i) = some ys from h2) (.ref (e.at h0))
      cases e3
      exact ⟨us, .inl (.inl h3), h4⟩
  | _ => cases h
theorem it_list {K : PySem.W.Frag} {d : D} {q : Addr} {ρ : List Addr} {H : Hp} (L : LAt K a d q ρ H) : ItOk K a (.live d) (Itl K q) ρ H := by
  refine ⟨fun ρ2 η2 H2 k e r h => ?_, fun ρ2 η2 H2 k x e r h => ?_⟩
  · simp only [nextI] at h
    cases qs : seqOf η2 d with
    | none => rw [qs] at h; cases h
    | some ys =>
      rw [qs] at h
      obtain ⟨us, h1, h2⟩ := L ρ2 η2 H2 ys e r qs
      exact ⟨us, h1, h2.getNone (by simpa using h)⟩
  · simp only [nextI] at h
    cases qs : seqOf η2 d with
    | none => rw [qs] at h; cases h
    | some ys =>
      rw [qs] at h
      obtain ⟨us, h1, h2⟩ := L ρ2 η2 H2 ys e r qs
      obtain ⟨u, h3, h4⟩ := h2.get (i := k) (d := x) (by simpa using h)
      refine ⟨⟨us, u, h1, h3⟩, fun y H' ⟨e1, e2⟩ => ?_⟩
      subst e1
      have e3 := e2 us h1
      rw [h3] at e3
      cases e3
      exact ⟨Ext.refl _ _, r, h4⟩
theorem it_tup {K : PySem.W.Frag} {d : D} {q : Addr} {ρ : List Addr} {H : Hp} (L : TAt K a d q ρ H) : ItOk K a (.live d) (Itt K q) ρ H := by
  refine ⟨fun ρ2 η2 H2 k e r h => ?_, fun ρ2 η2 H2 k x e r h => ?_⟩
  · simp only [nextI] at h
    cases qs : seqOf η2 d with
    | none => rw [qs] at h; cases h
    | some ys =>
      rw [qs] at h
      obtain ⟨us, h1, h2⟩ := L ρ2 η2 H2 ys e r qs
      exact ⟨us, h1, h2.getNone (by simpa using h)⟩
  · simp only [nextI] at h
    cases qs : seqOf η2 d with
    | none => rw [qs] at h; cases h
    | some ys =>
      rw [qs] at h
      obtain ⟨us, h1, h2⟩ := L ρ2 η2 H2 ys e r qs
      obtain ⟨u, h3, h4⟩ := h2.get (i := k) (d := x) (by simpa using h)
      refine ⟨⟨us, u, h1, h3⟩, fun y H' ⟨e1, e2⟩ => ?_⟩
      subst e1
      have e3 := e2 us h1
      rw [h3] at e3
      cases e3
      exact ⟨Ext.refl _ _, r, h4⟩
/-- a new tuple of two, handed out -/
theorem pair_out {K : PySem.W.Frag} {ρ : List Addr} {η : Hv} {H : Hp} {t : Addr} {x y : V} {d e : D} (r : Rel K a.C ρ η H) (n : H t = none) (h1 : Rep K ρ H d x) (h2 : Rep K ρ H e y) :
    Ext ρ H ρ (upd H t (.tup [x, y])) ∧ Rel K a.C ρ η (upd H t (.tup [x, y])) ∧ Rep K ρ (upd H t (.tup [x, y])) (.tup [d, e]) (.ref t) := by
  have ex := Ext.new (o := .tup [x, y]) r n
  exact ⟨ex, r.new n, .tup (.inl upd_same) (r.free n) (.cons (h1.mono ex) (.cons (h2.mono ex) .nil))⟩
theorem it_enum {K : PySem.W.Frag} {d : D} {q : Addr} {ρ : List Addr} {H : Hp} (L : LAt K a d q ρ H) : ItOk K a (.enum d) (Ite K q) ρ H := by
  refine ⟨fun ρ2 η2 H2 k e r h => ?_, fun ρ2 η2 H2 k x e r h => ?_⟩
  · simp only [nextI] at h
    cases qs : seqOf η2 d with
    | none => rw [qs] at h; cases h
    | some ys =>
      rw [qs] at h
      obtain ⟨us, h1, h2⟩ := L ρ2 η2 H2 ys e r qs
      exact ⟨us, h1, h2.getNone (by simpa using h)⟩
  · simp only [nextI] at h
    cases qs : seqOf η2 d with
    | none => rw [qs] at h; cases h
    | some ys =>
      rw [qs] at h
      obtain ⟨us, h1, h2⟩ := L ρ2 η2 H2 ys e r qs
      cases qk : ys[k]? with
      | none => simp [qk] at h
      | some z =>
        simp only [Option.map_some, qk, Option.some.injEq] at h
        subst h
        obtain ⟨u, h3, h4⟩ := h2.get qk
        refine ⟨⟨us, u, h1, h3⟩, fun y H' ⟨t, w, e1, e2, e3, e4⟩ => ?_⟩
        subst e1 e3
        have e5 := e4 us h1
        rw [h3] at e5
        cases e5
        exact pair_out r e2 (.int _) h4
theorem zip_next {d e : D} {η2 : Hv} {k : Nat} {o : Option D} (h : nextI (.zip d e) k η2 = some o) : ∃ xs ys, seqOf η2 d = some xs ∧ seqOf η2 e = some ys ∧ ((o = none ∧ (xs[k]? = none ∨ ys[k]? = none)) ∨ ∃ x y, xs[k]? = some x ∧ ys[k]? = some y ∧ o = some (.tup [x, y])) := by
  simp only [nextI] at h
  cases q1 : seqOf η2 d with
  | none => rw [q1] at h; cases h
  | some xs =>
    cases q2 : seqOf η2 e with
    | none => rw [q1, q2] at h; cases h
    | some ys =>
      rw [q1, q2] at h
      refine ⟨xs, ys, rfl, rfl, ?_⟩
      cases q3 : xs[k]? with
      | none => simp [q3] at h; exact .inl ⟨h.symm, .inl rfl⟩
      | some x =>
        cases q4 : ys[k]? with
        | none => simp [q3, q4] at h; exact .inl ⟨h.symm, .inr rfl⟩
        | some y => simp [q3, q4] at h; exact .inr ⟨x, y, rfl, rfl, h.symm⟩
theorem it_zip {K : PySem.W.Frag} {d e : D} {q q' : Addr} {ρ : List Addr} {H : Hp} (L : LAt K a d q ρ H) (L' : LAt K a e q' ρ H) : ItOk K a (.zip d e) (Itz K q q') ρ H := by
  refine ⟨fun ρ2 η2 H2 k ex r h => ?_, fun ρ2 η2 H2 k x ex r h => ?_⟩
  · obtain ⟨xs, ys, q1, q2, h9⟩ := zip_next h
    obtain ⟨us, h1, h2⟩ := L ρ2 η2 H2 xs ex r q1
    obtain ⟨ws, h3, h4⟩ := L' ρ2 η2 H2 ys ex r q2
    rcases h9 with ⟨_, h9 | h9⟩ | ⟨_, _, _, _, z⟩
    · exact ⟨us, ws, h1, h3, .inl (h2.getNone h9)⟩
    · exact ⟨us, ws, h1, h3, .inr (h4.getNone h9)⟩
    · cases z
  · obtain ⟨xs, ys, q1, q2, h9⟩ := zip_next h
    obtain ⟨us, h1, h2⟩ := L ρ2 η2 H2 xs ex r q1
    obtain ⟨ws, h3, h4⟩ := L' ρ2 η2 H2 ys ex r q2
    rcases h9 with ⟨z, _⟩ | ⟨d1, d2, z1, z2, z⟩
    · cases z
    · cases z
      obtain ⟨u1, h5, h6⟩ := h2.get z1
      obtain ⟨u2, h7, h8⟩ := h4.get z2
      refine ⟨⟨us, ws, u1, u2, h1, h3, h5, h7⟩, fun v H' ⟨t, w1, w2, e1, e2, e3, e4, e5⟩ => ?_⟩
      subst e1 e3
      have e6 := e4 us h1
      have e7 := e5 ws h3
      rw [h5] at e6
      rw [h7] at e7
      cases e6
      cases e7
      exact pair_out r e2 h6 h8
theorem it_zipT {K : PySem.W.Frag} {d e : D} {q q' : Addr} {ρ : List Addr} {H : Hp} (L : TAt K a d q ρ H) (L' : TAt K a e q' ρ H) : ItOk K a (.zip d e) (RZ.ItzT K q q') ρ H := by
  refine ⟨fun ρ2 η2 H2 k ex r h => ?_, fun ρ2 η2 H2 k x ex r h => ?_⟩
  · obtain ⟨xs, ys, q1, q2, h9⟩ := zip_next h
    obtain ⟨us, h1, h2⟩ := L ρ2 η2 H2 xs ex r q1
    obtain ⟨ws, h3, h4⟩ := L' ρ2 η2 H2 ys ex r q2
    rcases h9 with ⟨_, h9 | h9⟩ | ⟨_, _, _, _, z⟩
    · exact ⟨us, ws, h1, h3, .inl (h2.getNone h9)⟩
    · exact ⟨us, ws, h1, h3, .inr (h4.getNone h9)⟩
    · cases z
  · obtain ⟨xs, ys, q1, q2, h9⟩ := zip_next h
    obtain ⟨us, h1, h2⟩ := L ρ2 η2 H2 xs ex r q1
    obtain ⟨ws, h3, h4⟩ := L' ρ2 η2 H2 ys ex r q2
    rcases h9 with ⟨z, _⟩ | ⟨d1, d2, z1, z2, z⟩
    · cases z
    · cases z
      obtain ⟨u1, h5, h6⟩ := h2.get z1
      obtain ⟨u2, h7, h8⟩ := h4.get z2
      refine ⟨⟨us, ws, u1, u2, h1, h3, h5, h7⟩, fun v H' ⟨t, w1, w2, e1, e2, e3, e4, e5⟩ => ?_⟩
      subst e1 e3
      have e6 := e4 us h1
      have e7 := e5 ws h3
      rw [h5] at e6
      rw [h7] at e7
      cases e6
      cases e7
      exact pair_out r e2 h6 h8
/-! ### the rules -/
/-- an expression's value is walked -/
theorem s_ival {tg e : Expr} {m : Exp} (h : PE X e (tE X.K a W m)) : PI X tg e (tI X.K a W (iVal m)) := by
  refine ⟨fun pins s σ H RR I ⟨ρ, η, env, rel, er, hq⟩ => ?_⟩
  have exc : ∀ (P : V → Hp → Prop), (∀ d η1, m env η = .ok d η1 → ∀ ρ1 H1 v, Ext ρ H ρ1 H1 → Rel X.K a.C ρ1 η1 H1 → Rep X.K ρ1 H1 d v → P v H1) → (∀ d η1, m env η = .ok d η1 → True) → tE X.K a W m σ H P := fun P hp _ => by
    refine ⟨ρ, η, env, rel, er, ?_⟩
    unfold iVal at hq
    cases q : m env η with
    | ok d η1 => exact fun ρ1 H1 v e1 r1 p1 => hp d η1 q ρ1 H1 v e1 r1 p1
    | exc c η1 =>
      rw [q] at hq
      exact fun ρ1 H1 e1 r1 => hq ρ1 H1 e1 r1
    | bad => rw [q] at hq; exact hq
  have other : ∀ d η1, m env η = .ok d η1 → (∀ z, d ≠ .str z) → ∃ xs, seqOf η1 d = some xs ∧ ∀ ρ1 H1 J, Ext ρ H ρ1 H1 → Rel X.K a.C ρ1 η1 H1 → ItOk X.K a (.live d) J ρ1 H1 → RR J H1 := fun d η1 q nz => by
    unfold iVal at hq
    rw [q] at hq
    cases d with
    | str z => exact absurd rfl (nz z)
    | _ =>
      cases qs : seqOf η1 _ with
      | none => simp only [En.R.bind, qs] at hq
      | some xs =>
        simp only [En.R.bind, qs] at hq
        exact ⟨xs, rfl, hq⟩
  cases q : m env η with
  | ok d η1 =>
    by_cases hs : ∃ z, d = .str z
    · obtain ⟨z, rfl⟩ := hs
      refine (pi_str h).run pins s σ H RR I (exc _ (fun d1 η2 q2 ρ1 H1 v e1 r1 p1 => ?_) fun _ _ _ => trivial)
      rw [q] at q2
      cases q2
      unfold iVal at hq
      rw [q] at hq
      exact ⟨z, p1.strv, hq ρ1 H1 _ e1 r1 it_str⟩
    · obtain ⟨xs, qs, hr⟩ := other d η1 q fun z e => hs ⟨z, e⟩
      cases hk : kindL η1 d with
      | none =>
        exfalso
        cases d with
        | ref i =>
          have hk : (lstOf η1 (.ref i)).map (fun _ => true) = none := hk
          rw [show lstOf η1 (.ref i) = some xs from qs] at hk
          cases hk
        | _ => first
          | (cases hk; done)
          | (cases qs; done)
      | some b =>
        cases b with
        | true =>
          refine (pi_list h).run pins s σ H RR I (exc _ (fun d1 η2 q2 ρ1 H1 v e1 r1 p1 => ?_) fun _ _ _ => trivial)
          rw [q] at q2
          cases q2
          obtain ⟨t, rfl, ⟨_, L⟩ | ⟨z, _⟩⟩ := seq_walk r1 qs p1
          · obtain ⟨us, h1, _⟩ := L ρ1 η1 H1 xs (Ext.refl _ _) r1 qs
            exact ⟨t, rfl, ⟨us, h1⟩, hr ρ1 H1 _ e1 r1 (it_list L)⟩
          · rw [hk] at z; cases z
        | false =>
          refine (pi_tup h).run pins s σ H RR I (exc _ (fun d1 η2 q2 ρ1 H1 v e1 r1 p1 => ?_) fun _ _ _ => trivial)
          rw [q] at q2
          cases q2
          obtain ⟨t, rfl, ⟨z, _⟩ | ⟨_, L⟩⟩ := seq_walk r1 qs p1
          · rw [hk] at z; cases z
          · obtain ⟨us, h1, _⟩ := L ρ1 η1 H1 xs (Ext.refl _ _) r1 qs
            exact ⟨t, rfl, ⟨us, h1⟩, hr ρ1 H1 _ e1 r1 (it_tup L)⟩
  | exc c η1 =>
    refine (pi_list h).run pins s σ H RR I (exc _ (fun d1 η2 q2 => ?_) fun _ _ _ => trivial)
    rw [q] at q2
    cases q2
  | bad =>
    unfold iVal at hq
    rw [q] at hq
    exact hq.elim
theorem s_irng1 {tg e : Expr} {q : Pos} {m : Exp} (hg : Gl X "range") (hm : X.mg "range" = none) (hs : noStar e = true) (h : PE X e (tE X.K a W m)) : PI X tg (.Call (.Name "range" q) [e] [] pos) (tI X.K a W (En.iRng1 m)) := by
  refine PI.imp (pi_range1 hg hm (pa_cons h pa_nil (star_of hs)) (star_of hs)) fun σ H RR ⟨ρ, η, env, rel, er, hq⟩ => ?_
  refine ⟨ρ, η, env, rel, er, ?_⟩
  unfold En.iRng1 at hq
  cases q : m env η with
  | ok d η1 =>
    rw [q] at hq
    cases d with
    | int j =>
      simp only [En.R.bind] at hq
      cases hj : in62 j with
      | true =>
        simp only [hj, if_true] at hq
        obtain ⟨j1, j2⟩ := in62_of hj
        exact fun ρ1 H1 v e1 r1 p1 => ⟨j, by rw [p1.intv], j1, j2, hq ρ1 H1 _ e1 r1 it_range⟩
      | false => simp only [hj] at hq; exact hq.elim
    | _ => exact hq.elim
  | exc c η1 => rw [q] at hq; exact fun ρ1 H1 e1 r1 => hq ρ1 H1 e1 r1
  | bad => rw [q] at hq; exact hq.elim
theorem s_irng2 {tg e f : Expr} {q : Pos} {m n : Exp} (hg : Gl X "range") (hm : X.mg "range" = none) (hs : noStar e = true) (hs2 : noStar f = true) (h : PE X e (tE X.K a W m)) (h2 : PE X f (tE X.K a W n)) : PI X tg (.Call (.Name "range" q) [e, f] [] pos) (tI X.K a W (En.iRng2 m n)) := by
  have e2 : starEach [f] X.env = [(false, eval f X.env)] := star_of hs2
  refine PI.imp (pi_range2 hg hm (pa_cons h (pa_cons h2 pa_nil (star_of hs2)) (star_of hs)) (by rw [star_of hs, e2]) e2) fun σ H RR ⟨ρ, η, env, rel, er, hq⟩ => ?_
  refine ⟨ρ, η, env, rel, er, ?_⟩
  unfold En.iRng2 at hq
  cases q : m env η with
  | ok d η1 =>
    simp only [q, En.R.bind] at hq
    refine fun ρ1 H1 v e1 r1 p1 => ⟨ρ1, η1, env, r1, er.mono e1, ?_⟩
    cases q2 : n env η1 with
    | ok d2 η2 =>
      simp only [q2] at hq
      cases d with
      | int i =>
        cases d2 with
        | int j =>
          cases hj : in62 i && in62 j with
          | true =>
            simp only [hj, if_true] at hq
            rw [Bool.and_eq_true] at hj
            obtain ⟨i1, i2⟩ := in62_of hj.1
            obtain ⟨j1, j2⟩ := in62_of hj.2
            exact fun ρ2 H2 v2 e2 r2 p2 => ⟨i, j, by rw [p1.intv, p2.intv], ⟨i1, i2, j1, j2⟩, hq ρ2 H2 _ (e1.trans e2) r2 it_range⟩
          | false => simp only [hj] at hq; exact hq.elim
        | _ => exact hq.elim
      | _ => exact hq.elim
    | exc c η2 => simp only [q2] at hq; exact fun ρ2 H2 e2 r2 => hq ρ2 H2 (e1.trans e2) r2
    | bad => simp only [q2] at hq
  | exc c η1 => rw [q] at hq; exact fun ρ1 H1 e1 r1 => hq ρ1 H1 e1 r1
  | bad => rw [q] at hq; exact hq.elim
theorem s_ienum {ts : List Expr} {kk : Nat} {tp : Pos} {e : Expr} {q : Pos} {m : Exp} (hg : Gl X "enumerate") (hm : X.mg "enumerate" = none) (hs : noStar e = true) (h : PE X e (tE X.K a W m)) : PI X (.Tuple ts kk tp) (.Call (.Name "enumerate" q) [e] [] pos) (tI X.K a W (En.iEnum m)) := by
  refine PI.imp (pi_enum hg hm (pa_cons h pa_nil (star_of hs)) (star_of hs)) fun σ H RR ⟨ρ, η, env, rel, er, hq⟩ => ?_
  refine ⟨ρ, η, env, rel, er, ?_⟩
  unfold En.iEnum at hq
  cases q : m env η with
  | ok d η1 =>
    simp only [q, En.R.bind] at hq
    cases hk : kindL η1 d with
    | none => simp only [hk] at hq
    | some b =>
      cases b with
      | true =>
        simp only [hk] at hq
        have hx : ∃ xs, seqOf η1 d = some xs := by
          cases d with
          | scr xs => exact ⟨xs, rfl⟩
          | lst xs => exact ⟨xs, rfl⟩
          | ref i =>
            cases ql : lstOf η1 (.ref i) with
            | none => rw [show kindL η1 (.ref i) = (lstOf η1 (.ref i)).map (fun _ => true) from rfl, ql] at hk; cases hk
            | some xs => exact ⟨xs, ql⟩
          | _ => cases hk
        obtain ⟨xs, qs⟩ := hx
        refine fun ρ1 H1 v e1 r1 p1 => ?_
        obtain ⟨t, rfl, ⟨_, L⟩ | ⟨z, _⟩⟩ := seq_walk r1 qs p1
        · obtain ⟨us, h1, _⟩ := L ρ1 η1 H1 xs (Ext.refl _ _) r1 qs
          exact ⟨t, us, rfl, h1, hq ρ1 H1 _ e1 r1 (it_enum L)⟩
        · rw [hk] at z; cases z
      | false => simp only [hk] at hq
  | exc c η1 => rw [q] at hq; exact fun ρ1 H1 e1 r1 => hq ρ1 H1 e1 r1
  | bad => rw [q] at hq; exact hq.elim
theorem kind_seq {η : Hv} {d : D} {b : Bool} (hk : kindL η d = some b) : ∃ xs, seqOf η d = some xs := by
  cases d with
  | scr xs => exact ⟨xs, rfl⟩
  | lst xs => exact ⟨xs, rfl⟩
  | tup xs => exact ⟨xs, rfl⟩
  | ref i =>
    cases ql : lstOf η (.ref i) with
    | none => rw [show kindL η (.ref i) = (lstOf η (.ref i)).map (fun _ => true) from rfl, ql] at hk; cases hk
    | some xs => exact ⟨xs, ql⟩
  | _ => cases hk
theorem s_izip {ts : List Expr} {kk : Nat} {tp : Pos} {e f : Expr} {q : Pos} {m n : Exp} (hg : Gl X "zip") (hm : X.mg "zip" = none) (hs : noStar e = true) (hs2 : noStar f = true) (h : PE X e (tE X.K a W m)) (h2 : PE X f (tE X.K a W n)) : PI X (.Tuple ts kk tp) (.Call (.Name "zip" q) [e, f] [] pos) (tI X.K a W (En.iZip m n)) := by
  refine PI.imp (RZ.pi_zipA hg hm (pa_cons h (pa_cons h2 pa_nil (star_of hs2)) (star_of hs)) (star_of hs) (no_star (by rw [List.all_cons, hs2]; rfl))) fun σ H RR ⟨ρ, η, env, rel, er, hq⟩ => ?_
  refine ⟨ρ, η, env, rel, er, ?_⟩
  unfold En.iZip at hq
  cases q : m env η with
  | ok d η1 =>
    simp only [q, En.R.bind] at hq
    refine fun ρ1 H1 v e1 r1 p1 => ⟨ρ1, η1, env, r1, er.mono e1, ?_⟩
    cases q2 : n env η1 with
    | ok d2 η2 =>
      simp only [q2] at hq
      cases hk : kindL η2 d with
      | none => simp only [hk] at hq
      | some b =>
        cases hk2 : kindL η2 d2 with
        | none => simp only [hk, hk2] at hq
        | some b2 =>
          simp only [hk, hk2] at hq
          by_cases hb : (b == b2) = true
          · rw [if_pos hb] at hq
            have hb := eq_of_beq hb
            subst hb
            obtain ⟨xs, qs⟩ := kind_seq hk
            obtain ⟨ys, qs2⟩ := kind_seq hk2
            refine fun ρ2 H2 v2 e2 r2 p2 => ?_
            obtain ⟨t, rfl, z1⟩ := seq_walk r2 qs (p1.mono e2)
            obtain ⟨t2, rfl, z2⟩ := seq_walk r2 qs2 p2
            rcases z1 with ⟨k1, L⟩ | ⟨k1, L⟩ <;> rcases z2 with ⟨k2, L'⟩ | ⟨k2, L'⟩
            · obtain ⟨us, h1, _⟩ := L ρ2 η2 H2 xs (Ext.refl _ _) r2 qs
              obtain ⟨ws, h3, _⟩ := L' ρ2 η2 H2 ys (Ext.refl _ _) r2 qs2
              exact ⟨t, t2, us, ws, rfl, .inl ⟨h1, h3, hq ρ2 H2 _ (e1.trans e2) r2 (it_zip L L')⟩⟩
            · rw [hk] at k1; rw [hk2] at k2; cases k1; cases k2
            · rw [hk] at k1; rw [hk2] at k2; cases k1; cases k2
            · obtain ⟨us, h1, _⟩ := L ρ2 η2 H2 xs (Ext.refl _ _) r2 qs
              obtain ⟨ws, h3, _⟩ := L' ρ2 η2 H2 ys (Ext.refl _ _) r2 qs2
              exact ⟨t, t2, us, ws, rfl, .inr ⟨h1, h3, hq ρ2 H2 _ (e1.trans e2) r2 (it_zipT L L')⟩⟩
          · rw [if_neg hb] at hq
            exact hq.elim
    | exc c η2 => simp only [q2] at hq; exact fun ρ2 H2 e2 r2 => hq ρ2 H2 (e1.trans e2) r2
    | bad => simp only [q2] at hq
  | exc c η1 => rw [q] at hq; exact fun ρ1 H1 e1 r1 => hq ρ1 H1 e1 r1
  | bad => rw [q] at hq; exact hq.elim
theorem s_ibad {tg e : Expr} : PI X tg e (tI X.K a W iBad) := ⟨fun pins s σ H RR I ⟨ρ, η, env, rel, er, hq⟩ => hq.elim⟩
end
end En
end

section
set_option maxRecDepth 100000
set_option maxHeartbeats 2000000
/-! EO: loops, comprehensions, plain statements. -/
namespace En
open PySem PySem.Spec PyProof.Rows L2
section
variable {X : Cx} {a : Ad} {G : Gst} {W : L2.St → XK} {pos p : Pos} {xs : List Nat}
theorem fold_of {it : Expr} {env : Env} (h : notSet it = true) (x : Value) : foldedSetIterable it env x = pure x := by cases it <;> first | rfl | cases h
theorem s_for {tg it : Expr} {body : List Stmt} {i : Iex} {g : Tgt} {s : Stm} (hp : PassesOwn (model X.prog X.w) X.A X.env X.xe) (hc : X.calm = true) (hs : notSet it = true) (hi : PI X tg it (tI X.K a W i)) (hg : PG X tg (tG X.K a xs g)) (hb : PSs X body (tS X.K a W s)) :
    PS X (.For tg it body [] pos) (tS X.K a W (sFor i g s)) := by
  refine (ps_for hp hc hi hg hb (fold_of hs)).imp fun T σ H ⟨ρ, η, env, rel, er, h⟩ => ?_
  refine ⟨ρ, η, env, rel, er, ?_⟩
  unfold sFor at h
  cases q : i env η with
  | exc c η1 => rw [q] at h; exact fun ρ' H' e r => h ρ' H' σ e r (er.mono e)
  | bad => rw [q] at h; exact h
  | ok itv η1 =>
    rw [q] at h
    refine fun ρ1 H1 J e1 r1 ok => ⟨fun k m σ2 H2 => ∃ ρ2 η2 env2, Ext ρ1 H1 ρ2 H2 ∧ Rel X.K a.C ρ2 η2 H2 ∧ EnvR X.K ρ2 H2 env2 σ2 ∧ OutS X.K a W ρ2 H2 (loopN itv g s m k env2 η2) T, ⟨_, ρ1, η1, env, Ext.refl _ _, r1, er.mono e1, OutS.ext e1 h⟩, ?_⟩
    rintro k m σ2 H2 ⟨ρ2, η2, env2, e2, r2, er2, h2⟩
    cases m with
    | zero => exact h2.elim
    | succ m =>
      unfold loopN at h2
      cases qn : nextI itv k η2 with
      | none => simp only [qn] at h2; exact h2.elim
      | some o =>
        cases o with
        | none =>
          simp only [qn] at h2
          exact .inl ⟨ok.stop ρ2 η2 H2 k e2 r2 qn, h2 ρ2 H2 σ2 (Ext.refl _ _) r2 er2⟩
        | some d =>
          simp only [qn] at h2
          obtain ⟨g1, g2⟩ := ok.go ρ2 η2 H2 k d e2 r2 qn
          refine .inr ⟨g1, fun σ' H' => ∃ ρ3 η3 env3, Ext ρ1 H1 ρ3 H' ∧ Rel X.K a.C ρ3 η3 H' ∧ EnvR X.K ρ3 H' env3 σ' ∧ OutS X.K a W ρ3 H' (loopN itv g s m (k + 1) env3 η3) T, fun σ' H' z => ⟨m, Nat.lt_succ_self m, z⟩, fun x H' y => ?_⟩
          obtain ⟨ex, rx, px⟩ := g2 x H' y
          refine ⟨ρ2, η2, env2, d, rx, er2.mono ex, px, ?_⟩
          have h2 := OutS.ext ex h2
          cases qg : g d env2 η2 with
          | exc c η3 => simp only [qg] at h2; exact h2
          | bad => simp only [qg] at h2; exact h2
          | ok env3 η3 =>
            simp only [qg] at h2
            refine fun ρ3 H3 σ3 e3 r3 er3 _ => ⟨ρ3, η3, env3, r3, er3, ?_⟩
            have h2 := OutS.ext e3 h2
            have e13 : Ext ρ1 H1 ρ3 H3 := (e2.trans ex).trans e3
            cases qs : s env3 η3 with
            | nxt env4 η4 =>
              simp only [qs] at h2
              exact fun ρ4 H4 σ4 e4 r4 er4 => ⟨ρ4, η4, env4, e13.trans e4, r4, er4, OutS.ext e4 h2⟩
            | cnt env4 η4 =>
              simp only [qs] at h2
              exact fun ρ4 H4 σ4 e4 r4 er4 => ⟨ρ4, η4, env4, e13.trans e4, r4, er4, OutS.ext e4 h2⟩
            | brk env4 η4 => simp only [qs] at h2; exact h2
            | ret d4 η4 => simp only [qs] at h2; exact h2
            | exc c env4 η4 => simp only [qs] at h2; exact h2
            | bad => simp only [qs] at h2; exact h2
theorem s_while {c : Expr} {body : List Stmt} {t : Tst} {s : Stm} (n : Nat) (hp : PassesOwn (model X.prog X.w) X.A X.env X.xe) (hc : PT X c (tT X.K a W t)) (hb : PSs X body (tS X.K a W s)) : PS X (.While c body [] pos) (tS X.K a W (whileN t s n)) := by
  refine (ps_while hp hc hb).imp fun T σ H ⟨ρ, η, env, rel, er, h⟩ => ?_
  refine ⟨fun m σ2 H2 => ∃ ρ2 η2 env2, Rel X.K a.C ρ2 η2 H2 ∧ EnvR X.K ρ2 H2 env2 σ2 ∧ OutS X.K a W ρ2 H2 (whileN t s m env2 η2) T, ⟨n, ρ, η, env, rel, er, h⟩, ?_⟩
  rintro m σ2 H2 ⟨ρ2, η2, env2, r2, er2, h2⟩
  cases m with
  | zero => exact h2.elim
  | succ m =>
    refine tT.bindS r2 er2 h2 fun b η3 ρ3 H3 e3 r3 er3 h3 => ?_
    cases b with
    | false => rw [if_neg (by decide)] at h3 ⊢; exact h3 ρ3 H3 σ2 (Ext.refl _ _) r3 er3
    | true =>
      rw [if_pos rfl] at h3 ⊢
      refine ⟨fun σ' H' => ∃ ρ3 η3 env3, Rel X.K a.C ρ3 η3 H' ∧ EnvR X.K ρ3 H' env3 σ' ∧ OutS X.K a W ρ3 H' (whileN t s m env3 η3) T, fun σ' H' z => ⟨m, Nat.lt_succ_self m, z⟩, ρ3, η3, env2, r3, er3, ?_⟩
      cases qs : s env2 η3 with
      | nxt env4 η4 =>
        simp only [qs] at h3
        exact fun ρ4 H4 σ4 e4 r4 er4 => ⟨ρ4, η4, env4, r4, er4, OutS.ext e4 h3⟩
      | cnt env4 η4 =>
        simp only [qs] at h3
        exact fun ρ4 H4 σ4 e4 r4 er4 => ⟨ρ4, η4, env4, r4, er4, OutS.ext e4 h3⟩
      | brk env4 η4 => simp only [qs] at h3; exact h3
      | ret d4 η4 => simp only [qs] at h3; exact h3
      | exc c env4 η4 => simp only [qs] at h3; exact h3
      | bad => simp only [qs] at h3; exact h3
/-! ### comprehensions -/
theorem wipeE_len (env : Ev) : ∀ vs, (wipeE env vs).length = env.length
  | [] => rfl
  | v :: vs => by
    show ((wipeE env vs).set v none).length = _
    rw [List.length_set, wipeE_len env vs]
theorem EnvR.wipe {K : PySem.W.Frag} {ρ : List Addr} {H : Hp} {env : Ev} {σ : L2.St} (er : EnvR K ρ H env σ) : ∀ vs, EnvR K ρ H (wipeE env vs) (L2.wipe σ vs)
  | [] => er
  | v :: vs => by
    have ih := EnvR.wipe er vs
    refine ⟨by rw [wipeE_len, wipe_length]; exact er.len, fun j d e => ?_⟩
    have e : ((wipeE env vs).set v none)[j]? = some (some d) := e
    by_cases q : v = j
    · subst q
      have hl : v < (wipeE env vs).length := by
        by_cases hl : v < (wipeE env vs).length
        · exact hl
        · rw [List.getElem?_eq_none (by rw [List.length_set]; omega)] at e; cases e
      rw [List.getElem?_set_self hl] at e
      cases e
    · rw [List.getElem?_set_ne q] at e
      obtain ⟨v2, h1, h2⟩ := ih.at_ j d e
      refine ⟨v2, ?_, h2⟩
      show ((L2.wipe σ vs).set v none)[j]? = _
      rw [List.getElem?_set_ne q]
      exact h1
def WF : L2.St → XK := fun _ _ _ _ => False
theorem wipe_wipe {σ : L2.St} {vs : List Nat} : wipe (wipe σ vs) vs = wipe σ vs := by
  apply List.ext_getElem?
  intro j
  by_cases hj : j ∈ vs
  · rw [wipe_in hj, wipe_in hj]
    cases σ[j]? <;> rfl
  · rw [wipe_at hj, wipe_at hj]
theorem compT (n k L : Nat) {it : Itv} {g : Tgt} {t : Tst} {m : Exp} {env : Ev} {η : Hv} : compN it g t m env L (n + 1) k η = match nextI it k η with
  | none => .bad
  | some none => .ok () η
  | some (some d) => (g d env η).bind fun env1 η1 => (t env1 η1).bind fun b η2 => if b then (m env1 η2).bind fun x η3 => match η3[L]? with
      | some (.lst acc) => if acc.length < sizeLine then compN it g t m env L n (k + 1) (η3.set L (.lst (acc ++ [x]))) else .bad
      | _ => .bad
    else compN it g t m env L n (k + 1) η2 := rfl
/-- the heart of a list comprehension -/
theorem comp_core {it : Itv} {g : Tgt} {t : Tst} {m : Exp} {env : Ev} {n : Nat} {η η9 : Hv} {ρ : List Addr} {H : Hp} {σ : L2.St} {J : It} {own : List Nat} {Q : VK} (ok : ItOk X.K a it J ρ H) (rel : Rel X.K a.C ρ η H) (er : EnvR X.K ρ H env σ)
    (h : compN it g t m (wipeE env own) η.length n 0 (η ++ [.lst []]) = .ok () η9) (hq : ∀ ρ' H' q, Ext ρ H ρ' H' → Rel X.K a.C ρ' η9 H' → ρ'[η.length]? = some q → Q (.ref q) H') :
    ∀ q, H q = none → ∃ Wl : Nat → Nat → Hp → Prop, (∃ k, Wl 0 k (upd H q (.lst []))) ∧ ∀ i k H2, Wl i k H2 → (J.stop i H2 ∧ Q (.ref q) H2) ∨ (J.go i H2 ∧ ∃ Nx : Hp → Prop, (∀ H', Nx H' → ∃ k', k' < k ∧ Wl (i + 1) k' H') ∧ ∀ x H', J.yld i H2 x H' →
      tG X.K a own g x (wipe σ own) H' fun σ2 H3 => wipe σ2 own = wipe σ own ∧ tT X.K a WF t σ2 H3 fun b H4 => if b = true then tE X.K a WF m σ2 H4 fun y H5 => ∃ acc, H5 q = some (.lst acc) ∧ acc.length < sizeLine ∧ Nx (upd H5 q (.lst (acc ++ [y]))) else Nx H4) := by
  intro q nq
  have e0 := Ext.alloc (o := .lst []) nq (rel.free nq)
  have r0 := rel.alloc (u := .lst []) (o := .lst []) nq ⟨[], upd_same, .nil⟩
  have q0 : (ρ ++ [q])[η.length]? = some q := by
    rw [List.getElem?_append_right (by rw [rel.len]; exact Nat.le_refl _), rel.len, Nat.sub_self]
    rfl
  refine ⟨fun i k H2 => ∃ ρ2 η2, Ext ρ H ρ2 H2 ∧ Rel X.K a.C ρ2 η2 H2 ∧ ρ2[η.length]? = some q ∧ compN it g t m (wipeE env own) η.length k i η2 = .ok () η9, ⟨n, ρ ++ [q], η ++ [.lst []], e0, r0, q0, h⟩, ?_⟩
  rintro i k H2 ⟨ρ2, η2, e2, r2, hq2, hc⟩
  cases k with
  | zero => cases hc
  | succ k =>
    rw [compT] at hc
    cases qn : nextI it i η2 with
    | none => simp only [qn] at hc; cases hc
    | some o =>
      cases o with
      | none =>
        simp only [qn] at hc
        have e9 : η2 = η9 := by injection hc
        exact .inl ⟨ok.stop ρ2 η2 H2 i e2 r2 qn, hq ρ2 H2 q e2 (e9 ▸ r2) hq2⟩
      | some d =>
        simp only [qn] at hc
        obtain ⟨g1, g2⟩ := ok.go ρ2 η2 H2 i d e2 r2 qn
        refine .inr ⟨g1, fun H' => ∃ ρ2 η2, Ext ρ H ρ2 H' ∧ Rel X.K a.C ρ2 η2 H' ∧ ρ2[η.length]? = some q ∧ compN it g t m (wipeE env own) η.length k (i + 1) η2 = .ok () η9, fun H' z => ⟨k, Nat.lt_succ_self k, z⟩, fun x H' y => ?_⟩
        obtain ⟨ex, rx, px⟩ := g2 x H' y
        have ew : EnvR X.K ρ2 H' (wipeE env own) (wipe σ own) := ((er.mono e2).mono ex).wipe own
        refine ⟨ρ2, η2, wipeE env own, d, rx, ew, px, ?_⟩
        cases qg : g d (wipeE env own) η2 with
        | exc c η3 => rw [qg] at hc; cases hc
        | bad => rw [qg] at hc; cases hc
        | ok env3 η3 =>
          rw [qg] at hc
          simp only [R.bind] at hc
          refine fun ρ3 H3 σ3 e3 r3 er3 w3 => ⟨by rw [w3, wipe_wipe], ρ3, η3, env3, r3, er3, ?_⟩
          cases qt : t env3 η3 with
          | exc c η4 => simp only [qt] at hc; cases hc
          | bad => simp only [qt] at hc; cases hc
          | ok b η4 =>
            simp only [qt] at hc
            refine fun ρ4 H4 e4 r4 => ?_
            have e24 := (ex.trans e3).trans e4
            cases b with
            | false =>
              rw [if_neg (by decide)] at hc
              show ite _ _ _
              rw [if_neg (by decide)]
              exact ⟨ρ4, η4, e2.trans e24, r4, e24.at hq2, hc⟩
            | true =>
              rw [if_pos rfl] at hc
              show ite _ _ _
              rw [if_pos rfl]
              refine ⟨ρ4, η4, env3, r4, er3.mono e4, ?_⟩
              cases qm : m env3 η4 with
              | exc c η5 => simp only [qm] at hc; cases hc
              | bad => simp only [qm] at hc; cases hc
              | ok z η5 =>
                simp only [qm] at hc
                refine fun ρ5 H5 y5 e5 r5 p5 => ?_
                have e25 := e24.trans e5
                have hq5 := e25.at hq2
                split at hc
                · rename_i acc ql
                  obtain ⟨q', vs, e6, e7, h6, h7⟩ := r5.lst ql (.ref hq5)
                  cases e6
                  have hl : acc.length < sizeLine := by
                    by_cases hl : acc.length < sizeLine
                    · exact hl
                    · rw [if_neg hl] at hc; cases hc
                  rw [if_pos hl] at hc
                  have e8 : Ext ρ5 H5 ρ5 (upd H5 q (.lst (vs ++ [y5]))) := Ext.put (List.mem_of_getElem? hq5)
                  exact ⟨vs, h6, by rw [← h7.length]; exact hl, ρ5, _, (e2.trans e25).trans e8, r5.put (o := .lst (acc ++ [z])) hq5 ⟨_, upd_same, (h7.app (.cons p5 .nil)).mono e8⟩, hq5, hc⟩
                · cases hc
theorem pts_of {ifs : List Expr} {t : TT} (h : (ifs = [] ∧ t = tYes) ∨ ∃ c, ifs = [c] ∧ PT X c t) : PTs X ifs t := by
  rcases h with ⟨rfl, rfl⟩ | ⟨c, rfl, h⟩
  · exact pts_nil
  · exact pts_one h
/-- the reading of a list comprehension -/
theorem comp_read {tg it elt : Expr} {i : Iex} {g : Tgt} {t : Tst} {m : Exp} {own : List Nat} {σ : L2.St} {H : Hp} {Q : VK} (h : tE X.K a W (xComp own i g t m) σ H Q) : tLc (tI X.K a W i) (tG X.K a own g) (tT X.K a WF t) (tE X.K a WF m) own σ H Q := by
  obtain ⟨ρ, η, env, rel, er, h⟩ := h
  refine ⟨ρ, η, env, rel, er, ?_⟩
  unfold xComp at h
  cases q : i env η with
  | exc c η1 => rw [q] at h; exact fun ρ' H' e r => h ρ' H' e r
  | bad => rw [q] at h; exact h
  | ok itv η1 =>
    rw [q] at h
    obtain ⟨u, η2, qc, h⟩ := noExc_bind (P := fun r => Out X.K a W σ ρ H r Q) (fun z => z) h
    exact fun ρ1 H1 J e1 r1 ok => comp_core ok r1 (er.mono e1) qc fun ρ' H' q e r hq => h ρ' H' _ (e1.trans e) r (.ref hq)
theorem s_comp {tg it elt : Expr} {ifs : List Expr} {scope : Scope} {own : List (Str × Nat)} {i : Iex} {g : Tgt} {t : Tst} {m : Exp} (hc : X.calm = true) (hN : X.N.Nodup) (ok : BlkOk X.N X.env.scope scope own) (hs : notSet it = true) (hi : PI X tg it (tI X.K a W i))
    (hg : ∀ (s : Shared) (H : Hp) (C : Addr) (cl : List (Str × Addr)) (fp : List Addr), PG (X.blk s H scope (compEnvC scope cl C X.env) fp) tg (tG X.K a (own.map (·.2)) g)) (ht : ∀ (s : Shared) (H : Hp) (C : Addr) (cl : List (Str × Addr)) (fp : List Addr), PTs (X.blk s H scope (compEnvC scope cl C X.env) fp) ifs (tT X.K a WF t))
    (he : ∀ (s : Shared) (H : Hp) (C : Addr) (cl : List (Str × Addr)) (fp : List Addr), PE (X.blk s H scope (compEnvC scope cl C X.env) fp) elt (tE X.K a WF m)) :
    PE X (.ListComp elt [⟨tg, it, ifs, 0⟩] scope pos) (tE X.K a W (xComp (own.map (·.2)) i g t m)) :=
  (pe_lc hc hN hi ok hg ht he (fold_of hs)).imp fun σ H Q h => comp_read (tg := tg) (it := it) (elt := elt) h
end
end En
end

section
set_option maxRecDepth 100000
set_option maxHeartbeats 2000000
/-! EP: statements. -/
namespace En
open PySem PySem.Spec PyProof.Rows L2
section
variable {X : Cx} {a : Ad} {G : Gst} {W : L2.St → XK} {pos p : Pos} {xs : List Nat}
theorem s_pass : PS X (.Pass pos) (tS X.K a W sPass) := ps_pass.imp fun T σ H ⟨ρ, η, env, rel, er, h⟩ => h ρ H σ (Ext.refl _ _) rel er
theorem s_brk : PS X (.Break pos) (tS X.K a W sBrk) := ps_break.imp fun T σ H ⟨ρ, η, env, rel, er, h⟩ => h ρ H σ (Ext.refl _ _) rel er
theorem s_cnt : PS X (.Continue pos) (tS X.K a W sCnt) := ps_continue.imp fun T σ H ⟨ρ, η, env, rel, er, h⟩ => h ρ H σ (Ext.refl _ _) rel er
theorem s_badS {st : Stmt} : PS X st (tS X.K a W sBad) := ⟨fun pins s σ H T I ⟨ρ, η, env, rel, er, h⟩ => h.elim⟩
theorem s_retN : PS X (.Return none pos) (tS X.K a W sRetN) := ps_retN.imp fun T σ H ⟨ρ, η, env, rel, er, h⟩ => h ρ H .non (Ext.refl _ _) rel .non
theorem s_ret {e : Expr} {m : Exp} (h : PE X e (tE X.K a W m)) : PS X (.Return (some e) pos) (tS X.K a W (sRet m)) := by
  refine (ps_ret h).imp fun T σ H ⟨ρ, η, env, rel, er, h⟩ => ?_
  exact tE.bindS rel er h fun d η1 ρ1 H1 v e1 r1 er1 p1 h1 => h1 ρ1 H1 v (Ext.refl _ _) r1 p1
theorem swn_of {e : Expr} {l : Nat} {env : Env} {t : Option Expr} (h : notComp e = true) : swapsWith e t l env = pure false := by cases e <;> first | rfl | cases h
theorem s_exp {e : Expr} {m : Exp} (hc : notComp e = true) (h : PE X e (tE X.K a W m)) : PS X (.Expr e pos) (tS X.K a W (sExp m)) := by
  refine (ps_expr h (swn_of hc)).imp fun T σ H ⟨ρ, η, env, rel, er, h⟩ => ?_
  exact tE.bindS rel er h fun d η1 ρ1 H1 v e1 r1 er1 p1 h1 => h1 ρ1 H1 σ (Ext.refl _ _) r1 er1
theorem s_ifS {c : Expr} {u v : List Stmt} {t : Tst} {s1 s2 : Stm} (hc : PT X c (tT X.K a W t)) (h1 : PSs X u (tS X.K a W s1)) (h2 : PSs X v (tS X.K a W s2)) : PS X (.If c u v pos) (tS X.K a W (sIf t s1 s2)) := by
  refine (ps_if hc h1 h2).imp fun T σ H ⟨ρ, η, env, rel, er, h⟩ => ?_
  refine tT.bindS rel er h fun b η1 ρ1 H1 e1 r1 er1 h1 => ?_
  cases b with
  | true => rw [if_pos rfl] at h1 ⊢; exact ⟨ρ1, η1, env, r1, er1, h1⟩
  | false => rw [if_neg (by decide)] at h1 ⊢; exact ⟨ρ1, η1, env, r1, er1, h1⟩
theorem s_snil : PSs X [] (tS X.K a W sPass) := pss_nil.imp fun T σ H ⟨ρ, η, env, rel, er, h⟩ => h ρ H σ (Ext.refl _ _) rel er
theorem s_scons {st : Stmt} {r : List Stmt} {s t : Stm} (h1 : PS X st (tS X.K a W s)) (h2 : PSs X r (tS X.K a W t)) : PSs X (st :: r) (tS X.K a W (sSeq s t)) := by
  refine (pss_cons h1 h2).imp fun T σ H ⟨ρ, η, env, rel, er, h⟩ => ⟨ρ, η, env, rel, er, ?_⟩
  unfold sSeq at h
  cases q : s env η with
  | nxt env1 η1 =>
    simp only [q] at h
    exact fun ρ1 H1 σ1 e1 r1 er1 => ⟨ρ1, η1, env1, r1, er1, OutS.ext e1 h⟩
  | ret d η1 => simp only [q] at h; exact h
  | brk env1 η1 => simp only [q] at h; exact h
  | cnt env1 η1 => simp only [q] at h; exact h
  | exc c env1 η1 => simp only [q] at h; exact h
  | bad => simp only [q] at h; exact h
/-! ### assignments -/
theorem asg_read {t : TE} {gR : TG} {g : Tgt} {m : Exp} {T : Ends} {σ : L2.St} {H : Hp} (ht : ∀ Q, tE X.K a W m σ H Q → t σ H Q) (hg : ∀ v σ H Q, tG X.K a xs g v σ H Q → gR v σ H Q) (h : tS X.K a W (sAsg m g) T σ H) : tAsg t gR T σ H := by
  obtain ⟨ρ, η, env, rel, er, h⟩ := h
  refine ht _ (tE.bindS rel er h fun d η1 ρ1 H1 v e1 r1 er1 p1 h1 => hg _ _ _ _ ⟨ρ1, η1, env, d, r1, er1, p1, ?_⟩)
  cases q : g d env η1 with
  | ok env1 η2 =>
    rw [q] at h1
    exact fun ρ2 H2 σ2 e2 r2 er2 _ => h1 ρ2 H2 σ2 e2 r2 er2
  | exc c η2 => rw [q] at h1; exact h1
  | bad => rw [q] at h1; exact h1
theorem localN_eq {sc : Scope} {env : Env} (hsc : env.scope = sc) (line : Nat) : localN sc line = fun
    | .Name id pos => if env.kindOf id == some .local && pos.line == line then some id else none
    | _ => none := by
  funext e
  cases e with
  | Name id q =>
    unfold localN Env.kindOf
    dsimp only
    rw [hsc]
    cases hl : sc.names.lookup id with
    | none => rfl
    | some k => cases k <;> rfl
  | _ => rfl
theorem star_of_all {vs : List Expr} (h : vs.all noStar = false) : (vs.any fun | .Starred .. => true | _ => false) = true := by
  induction vs with
  | nil => cases h
  | cons e r ih =>
    rw [List.all_cons] at h
    rw [List.any_cons]
    cases e with
    | Starred x q => rfl
    | _ => exact ih h
theorem store_none {sc : Scope} {tg e : Expr} {env : Env} (hsc : env.scope = sc) (hk : env.scope.kind = .function) (ho : okTg tg = true) (h : swNone sc tg e = true) : swappedStores [tg] e env = pure none := by
  have hb : env.blockKind = .function := by unfold Env.blockKind; rw [hk]; rfl
  cases tg with
  | Tuple ts k q =>
    cases e with
    | Tuple vs k2 q2 =>
      simp only [swNone, localN_eq hsc] at h
      unfold swappedStores
      dsimp only
      split
      · rfl
      · rename_i c1
        split
        · rfl
        · rename_i c2
          have c3 : vs.all noStar = true := by
            cases hv : vs.all noStar with
            | true => rfl
            | false => exact absurd (star_of_all hv) c2
          split
          · rfl
          · rename_i c4
            split
            · rfl
            · rename_i c5
              exfalso
              rw [Bool.or_eq_true, Bool.or_eq_true, Bool.or_eq_true, Bool.or_eq_true] at h
              rw [Bool.or_eq_true, Bool.or_eq_true] at c1
              rw [Bool.or_eq_true] at c4
              rcases h with ((h | h) | h) | h | h
              · exact c1 (.inl (.inl h))
              · exact c1 (.inl (.inr h))
              · rw [c3] at h; cases h
              · exact c4 (.inl h)
              · exact c5 h
    | _ => rfl
  | List ts q => cases ho
  | _ => cases e <;> rfl
theorem s_asg {sc : Scope} {tg e : Expr} {m : Exp} {g : Tgt} (hsc : X.env.scope = sc) (hc : notComp e = true ∨ isName tg = false) (ho : okTg tg = true) (hw : swNone sc tg e = true) (he : PE X e (tE X.K a W m)) (hg : PG X tg (tG X.K a xs g)) : PS X (.Assign [tg] e pos) (tS X.K a W (sAsg m g)) := by
  refine ⟨fun pins s σ H T I h => ?_⟩
  have hs : swapsWithSole [tg] e pos.line X.env = pure false := by
    rcases hc with hc | hc
    · exact swn_of hc
    · show swapsWith e (some tg) pos.line X.env = pure false
      cases tg with
      | Name x q => cases hc
      | _ => cases e <;> rfl
  exact (ps_asg he hg hs (store_none hsc I.ok.kind ho hw) (by cases tg <;> first | rfl | cases ho)).run pins s σ H T I (asg_read (fun _ h => h) (fun _ _ _ _ h => h) h)
theorem s_setc {b : Bool} {sc : Scope} {x : Str} {i : Nat} {q : Pos} {tg it elt : Expr} {ifs : List Expr} {scope : Scope} {own : List (Str × Nat)} {ii : Iex} {g : Tgt} {t : Tst} {m : Exp} {cpos : Pos} (hsc : X.env.scope = sc) (hy : X.N[i]? = some x) (hsw : swCase sc (.Name x q) (.ListComp elt [⟨tg, it, ifs, 0⟩] scope cpos) pos.line = true) (hc : X.calm = true) (hN : X.N.Nodup) (ok : BlkOk X.N X.env.scope scope own) (hs : notSet it = true) (hi : PI X tg it (tI X.K a W ii))
    (hg : ∀ (s : Shared) (H : Hp) (C : Addr) (cl : List (Str × Addr)) (fp : List Addr), PG (X.blk s H scope (compEnvC scope cl C X.env) fp) tg (tG X.K a (own.map (·.2)) g)) (ht : ∀ (s : Shared) (H : Hp) (C : Addr) (cl : List (Str × Addr)) (fp : List Addr), PTs (X.blk s H scope (compEnvC scope cl C X.env) fp) ifs (tT X.K a WF t))
    (he : ∀ (s : Shared) (H : Hp) (C : Addr) (cl : List (Str × Addr)) (fp : List Addr), PE (X.blk s H scope (compEnvC scope cl C X.env) fp) elt (tE X.K a WF m)) :
    PS X (.Assign [.Name x q] (.ListComp elt [⟨tg, it, ifs, 0⟩] scope cpos) pos) (tS X.K a W (sAsg (fzIf b (xComp (own.map (·.2)) ii g t m)) (gSlot i))) := by
  refine ⟨fun pins s σ H T I h => ?_⟩
  have hz : X.env.scope.names.lookup x = some .local ∧ (q.line == cpos.line) = true ∧ (scope.names.any fun (n, k) => n == x && (k == .local || k == .cell)) = false := by
    rw [hsc]
    unfold swCase at hsw
    dsimp only at hsw
    cases hx : sc.names.lookup x with
    | none => rw [hx] at hsw; simp at hsw
    | some k =>
      rw [hx] at hsw
      cases k <;> simp at hsw
      refine ⟨rfl, by simpa using hsw.1, ?_⟩
      simpa using hsw.2
  obtain ⟨hl, h2, h3⟩ := hz
  refine (ps_setLc hc hN hy hl (sw_true I.ok.kind hl h2 h3) hi ok hg ht he (fold_of hs)).run pins s σ H T I ?_
  refine asg_read (xs := [i]) (fun Q z => comp_read (tg := tg) (it := it) (elt := elt) (fz_read z)) (fun v σ H Q ⟨ρ, η, env, d, rel, er, rp, z⟩ => ?_) h
  exact z ρ H _ (Ext.refl _ _) rel (er.set i rp) (wipe_set List.mem_cons_self)
/-! ### a, b = x, y -/
def isStar : Expr → Bool
  | .Starred .. => true
  | _ => false
theorem starT {e : Expr} {α : Prop} (h : noStar e = true) (c : isStar e = true) : α := by
  cases e <;> first
    | (cases c; done)
    | (cases h; done)
theorem store_two {x y : Str} {u v : Expr} {px py pt : Pos} {kt k2 : Nat} {pt2 : Pos} {env : Env} (hk : env.scope.kind = .function) (hx : env.scope.names.lookup x = some .local) (hy : env.scope.names.lookup y = some .local) (hl : (px.line == py.line) = true) (hne : x ≠ y) (ha : noStar u = true) (hb : noStar v = true)
    (hf : (foldedForSure 8 u && foldedForSure 8 v) = false) (hcn : (constantsAlone 8 u && constantsAlone 8 v) = false) : swappedStores [.Tuple [.Name x px, .Name y py] kt pt] (.Tuple [u, v] k2 pt2) env = pure (some [x, y]) := by
  have hb2 : env.blockKind = .function := by unfold Env.blockKind; rw [hk]; rfl
  have kx : env.kindOf x = some .local := hx
  have ky : env.kindOf y = some .local := hy
  have hl2 : py.line = px.line := (eq_of_beq hl).symm
  have hyx : (y == x) = false := beq_eq_false_iff_ne.mpr (Ne.symm hne)
  have hd : [x, y].eraseDups = [x, y] := by simp [List.eraseDups_cons, hyx]
  have hn : ∀ (f : Expr → Option Str), f (.Name x px) = some x → f (.Name y py) = some y → [Expr.Name x px, Expr.Name y py].filterMap f = [x, y] := fun f h1 h2 => by
    rw [List.filterMap_cons_some h1, List.filterMap_cons_some h2]; rfl
  unfold swappedStores
  dsimp only
  rw [hn _ (by simp [kx, Expr.pos]) (by simp [ky, Expr.pos, hl2])]
  split
  · rename_i c
    simp [hb2] at c
  · split
    · rename_i c
      simp only [List.any_cons, List.any_nil, Bool.or_false, Bool.or_eq_true] at c
      rcases c with c | c
      · exact starT ha c
      · exact starT hb c
    · split
      · rename_i c
        rw [hd] at c
        simp at c
      · split
        · rename_i c
          simp only [List.all_cons, List.all_nil, Bool.and_true] at c
          rw [hf] at c
          cases c
        · split
          · rename_i c
            simp only [List.all_cons, List.all_nil, Bool.and_true] at c
            rw [hcn] at c
            cases c
          · rfl
theorem store_three {x y z : Str} {u v w : Expr} {px py pz pt : Pos} {kt k2 : Nat} {pt2 : Pos} {env : Env} (hk : env.scope.kind = .function) (hx : env.scope.names.lookup x = some .local) (hy : env.scope.names.lookup y = some .local) (hz : env.scope.names.lookup z = some .local) (hl : (px.line == py.line) = true) (hl3 : (px.line == pz.line) = true)
    (hne : x ≠ y) (hxz : x ≠ z) (hyz : y ≠ z) (ha : noStar u = true) (hb : noStar v = true) (hc : noStar w = true) (hf : (foldedForSure 8 u && foldedForSure 8 v && foldedForSure 8 w) = false) (hcn : (constantsAlone 8 u && constantsAlone 8 v && constantsAlone 8 w) = false) :
    swappedStores [.Tuple [.Name x px, .Name y py, .Name z pz] kt pt] (.Tuple [u, v, w] k2 pt2) env = pure (some [x, y, z]) := by
  have hb2 : env.blockKind = .function := by unfold Env.blockKind; rw [hk]; rfl
  have kx : env.kindOf x = some .local := hx
  have ky : env.kindOf y = some .local := hy
  have kz : env.kindOf z = some .local := hz
  have hl2 : py.line = px.line := (eq_of_beq hl).symm
  have hl4 : pz.line = px.line := (eq_of_beq hl3).symm
  have hyx : (y == x) = false := beq_eq_false_iff_ne.mpr (Ne.symm hne)
  have hzx : (z == x) = false := beq_eq_false_iff_ne.mpr (Ne.symm hxz)
  have hzy : (z == y) = false := beq_eq_false_iff_ne.mpr (Ne.symm hyz)
  have hd : [x, y, z].eraseDups = [x, y, z] := by simp [List.eraseDups_cons, hyx, hzx, hzy]
  have hn : ∀ (f : Expr → Option Str), f (.Name x px) = some x → f (.Name y py) = some y → f (.Name z pz) = some z → [Expr.Name x px, Expr.Name y py, Expr.Name z pz].filterMap f = [x, y, z] := fun f h1 h2 h3 => by
    rw [List.filterMap_cons_some h1, List.filterMap_cons_some h2, List.filterMap_cons_some h3]; rfl
  unfold swappedStores
  dsimp only
  rw [hn _ (by simp [kx, Expr.pos]) (by simp [ky, Expr.pos, hl2]) (by simp [kz, Expr.pos, hl4])]
  split
  · rename_i c
    simp [hb2] at c
  · split
    · rename_i c
      simp only [List.any_cons, List.any_nil, Bool.or_false, Bool.or_eq_true] at c
      rcases c with c | c | c
      · exact starT ha c
      · exact starT hb c
      · exact starT hc c
    · split
      · rename_i c
        rw [hd] at c
        simp at c
      · split
        · rename_i c
          simp only [List.all_cons, List.all_nil, Bool.and_true, ← Bool.and_assoc] at c
          rw [hf] at c
          cases c
        · split
          · rename_i c
            simp only [List.all_cons, List.all_nil, Bool.and_true, ← Bool.and_assoc] at c
            rw [hcn] at c
            cases c
          · rfl
theorem lookLoc {sc : Scope} {x : Str} (h : (match sc.names.lookup x with | some .local => true | _ => false) = true) : sc.names.lookup x = some .local := by
  split at h
  · assumption
  · cases h
theorem slot_ne {N : List Str} {i j : Nat} {x y : Str} (hi : N[i]? = some x) (hj : N[j]? = some y) (h : x ≠ y) : i ≠ j := fun e => by
  subst e
  rw [hi] at hj
  exact h (Option.some.inj hj)
theorem s_par2 {sc : Scope} {x y : Str} {u v : Expr} {px py pt : Pos} {kt k2 i j : Nat} {pt2 : Pos} {l : Lst} (hsc : X.env.scope = sc) (hc : X.calm = true) (hN : X.N.Nodup) (hi : X.N[i]? = some x) (hj : X.N[j]? = some y) (hx : sc.names.lookup x = some .local) (hy : sc.names.lookup y = some .local) (hl : (px.line == py.line) = true) (hne : x ≠ y)
    (ha : noStar u = true) (hb : noStar v = true) (hf : (foldedForSure 8 u && foldedForSure 8 v) = false) (hcn : (constantsAlone 8 u && constantsAlone 8 v) = false) (h : PA X [u, v] (tL X.K a W l)) :
    PS X (.Assign [.Tuple [.Name x px, .Name y py] kt pt] (.Tuple [u, v] k2 pt2) pos) (tS X.K a W (sPar l (gsCons (gSlot i) (gsCons (gSlot j) gsNil)))) := by
  subst hsc
  refine ⟨fun pins s σ H T I ⟨ρ, η, env, rel, er, h9⟩ => ?_⟩
  refine (ps_par hc hN hi hj (slot_ne hi hj hne) hx hy h (store_two I.ok.kind hx hy hl hne ha hb hf hcn) rfl).run pins s σ H T I ⟨ρ, η, env, rel, er, ?_⟩
  unfold sPar at h9
  cases q : l env η with
  | ok ds η1 =>
    rw [q] at h9
    refine fun ρ1 H1 vs e1 r1 p1 => ?_
    cases p1 with
    | nil => exact h9.elim
    | cons p1 r =>
      cases r with
      | nil => exact h9.elim
      | cons p2 r =>
        cases r with
        | nil => exact ⟨_, _, rfl, h9 ρ1 H1 _ e1 r1 (((er.mono e1).set i p1).set j p2)⟩
        | cons _ _ => exact h9.elim
  | exc c η1 => rw [q] at h9; exact fun ρ1 H1 e1 r1 => h9 ρ1 H1 σ e1 r1 (er.mono e1)
  | bad => rw [q] at h9; exact h9.elim
theorem s_par3 {sc : Scope} {x y z : Str} {u v w : Expr} {px py pz pt : Pos} {kt k2 i j k : Nat} {pt2 : Pos} {l : Lst} (hsc : X.env.scope = sc) (hc : X.calm = true) (hN : X.N.Nodup) (hi : X.N[i]? = some x) (hj : X.N[j]? = some y) (hkk : X.N[k]? = some z) (hx : sc.names.lookup x = some .local) (hy : sc.names.lookup y = some .local) (hz : sc.names.lookup z = some .local)
    (hl : (px.line == py.line) = true) (hl3 : (px.line == pz.line) = true) (hne : x ≠ y) (hxz : x ≠ z) (hyz : y ≠ z) (ha : noStar u = true) (hb : noStar v = true) (hw : noStar w = true) (hf : (foldedForSure 8 u && foldedForSure 8 v && foldedForSure 8 w) = false) (hcn : (constantsAlone 8 u && constantsAlone 8 v && constantsAlone 8 w) = false) (h : PA X [u, v, w] (tL X.K a W l)) :
    PS X (.Assign [.Tuple [.Name x px, .Name y py, .Name z pz] kt pt] (.Tuple [u, v, w] k2 pt2) pos) (tS X.K a W (sPar l (gsCons (gSlot i) (gsCons (gSlot j) (gsCons (gSlot k) gsNil))))) := by
  subst hsc
  refine ⟨fun pins s σ H T I ⟨ρ, η, env, rel, er, h9⟩ => ?_⟩
  refine (ps_par3 hc hN hi hj hkk (slot_ne hi hj hne) (slot_ne hi hkk hxz) (slot_ne hj hkk hyz) hx hy hz h (store_three I.ok.kind hx hy hz hl hl3 hne hxz hyz ha hb hw hf hcn) rfl).run pins s σ H T I ⟨ρ, η, env, rel, er, ?_⟩
  unfold sPar at h9
  cases q : l env η with
  | ok ds η1 =>
    rw [q] at h9
    refine fun ρ1 H1 vs e1 r1 p1 => ?_
    cases p1 with
    | nil => exact h9.elim
    | cons p1 r =>
      cases r with
      | nil => exact h9.elim
      | cons p2 r =>
        cases r with
        | nil => exact h9.elim
        | cons p3 r =>
          cases r with
          | nil => exact ⟨_, _, _, rfl, h9 ρ1 H1 _ e1 r1 ((((er.mono e1).set i p1).set j p2).set k p3)⟩
          | cons _ _ => exact h9.elim
  | exc c η1 => rw [q] at h9; exact fun ρ1 H1 e1 r1 => h9 ρ1 H1 σ e1 r1 (er.mono e1)
  | bad => rw [q] at h9; exact h9.elim
end
end En
end

section
set_option maxRecDepth 100000
set_option maxHeartbeats 2000000
/-! EQ: +=, raise, try. -/
namespace En
open PySem PySem.Spec PyProof.Rows L2
section
variable {X : Cx} {a : Ad} {G : Gst} {W : L2.St → XK} {pos p : Pos} {xs : List Nat}
theorem s_aug {x : Str} {i : Nat} {q : Pos} {e : Expr} {m : Exp} (hN : X.N.Nodup) (hi : X.N[i]? = some x) (hx : Loc X.env.scope x) (hf : X.fn x = true ∨ X.env.scope.names.lookup x = some .local) (h : PE X e (tE X.K a W m)) : PS X (.AugAssign (.Name x q) .Add e pos) (tS X.K a W (sAug i m)) := by
  refine (ps_aug hN hi hx h ip_add hf).imp fun T σ H ⟨ρ, η, env, rel, er, h9⟩ => ?_
  unfold sAug at h9
  split at h9
  · rename_i d qd
    obtain ⟨v, hv, rp⟩ := er.at_ i d qd
    refine ⟨v, hv, tE.bindS rel er h9 fun d2 η1 ρ1 H1 v2 e1 r1 er1 p1 h1 => ?_⟩
    split at h1
    · rename_i z w
      exact ⟨z, w, rp.intv, p1.intv, h1 ρ1 H1 _ (Ext.refl _ _) r1 (er1.set i (.int _))⟩
    · exact h1.elim
  · exact h9.elim
theorem s_augF {o e : Expr} {f : Str} {q : Pos} {mo m : Exp} (hn : ∀ c, G.noat c f = true → Cls X.K (a.C c) ∧ NoAttr X.K (a.C c) f) (ho : PE X o (tE X.K a W mo)) (h : PE X e (tE X.K a W m)) : PS X (.AugAssign (.Attribute o f q) .Add e pos) (tS X.K a W (sAugF G f mo m)) := by
  refine (ps_fldaug ho h in_add).imp fun T σ H ⟨ρ, η, env, rel, er, h9⟩ => ?_
  refine tE.bindS rel er h9 fun d η1 ρ1 H1 v e1 r1 er1 p1 h1 => ?_
  split at h1
  · rename_i i
    split at h1
    · rename_i c fs qo
      split at h1
      · rename_i hc
        split at h1
        · rename_i x ql
          obtain ⟨t, dx, fv, rfl, ht, h2, h3, h4⟩ := r1.ins qo p1
          obtain ⟨v2, h5, h6⟩ := (lookup_of f h3 h4).1 _ ql
          refine ⟨t, _, dx, fv, v2, rfl, h2, (hn c hc).1, (hn c hc).2, h5, tE.bindS r1 er1 h1 fun d2 η2 ρ2 H2 v3 e2 r2 er2 p2 h7 => ?_⟩
          split at h7
          · rename_i y c2 fs2 qo2
            by_cases hz : (decide (c2 = c) && decide (fs2.length < 900)) = true
            · rw [if_pos hz] at h7
              rw [Bool.and_eq_true] at hz
              have hcc := of_decide_eq_true hz.1
              have hl := of_decide_eq_true hz.2
              subst hcc
              obtain ⟨t', dx', fv', e9, ht', h8, h10, h11⟩ := r2.ins qo2 (.ref (e2.at ht))
              cases e9
              have hl2 := congrArg List.length h10
              rw [List.length_map, List.length_map] at hl2
              obtain ⟨r3, e3⟩ := r2.putFld (c := c2) (f := f) (dx := dx') (d := .int (x + y)) ht' (.int _) h10 h11
              exact ⟨x, y, h6.intv, p2.intv, dx', fv', h8, by omega, h7 _ _ _ e3 r3 (er2.mono e3)⟩
            · rw [if_neg hz] at h7
              exact h7.elim
          · exact h7.elim
        · exact h1.elim
      · exact h1.elim
    · exact h1.elim
  · exact h1.elim
/-! ### o[i] += e -/
theorem get_ok : PGet X (fun o i H Q => ∃ t us k v, o = .ref t ∧ i = .int k ∧ SqL X.K H t us ∧ 0 ≤ k ∧ us[k.toNat]? = some v ∧ Q v H) := by
  intro pins s σ H o i ov iv Q I ro ri h
  obtain ⟨t, us, k, v, rfl, rfl, hs, h0, hk, q⟩ := h
  cases ro
  obtain ⟨tk, rfl⟩ := ri
  obtain ⟨its, rv, pl, hz⟩ := I.list hs
  obtain ⟨u, hu, ru⟩ := rv.get hk
  have hlt := (List.getElem?_eq_some_iff.mp hk).1
  have hlen := rv.length
  have hn := line63
  exact wpAny_getItem_list pl.isList h0 (by omega) (by simpa using hu) ⟨v, H, I, ru, q⟩
theorem aug_tree {i : Expr} (h : noSlice i = true) (ov iv new : Value) : augStore i ov iv new = (do holding [new, ov, iv] (setItem ov iv new); release [new, ov, iv] []; pure .next) := by
  cases i <;> first | rfl | cases h
theorem s_augI {o i e : Expr} {q : Pos} {mo mi m : Exp} (hu : X.A.units + 65 < cLine) (hs : noSlice i = true) (ho : PE X o (tE X.K a W mo)) (hi : PE X i (tE X.K a W mi)) (h : PE X e (tE X.K a W m)) : PS X (.AugAssign (.Subscript o i q) .Add e pos) (tS X.K a W (sAugI mo mi m)) := by
  obtain ⟨t, ht, hs2⟩ := set_of (X := X) (a := a) hu
  refine (ps_augS ho hi get_ok h ip_add ht (aug_tree hs)).imp fun T σ H ⟨ρ, η, env, rel, er, h9⟩ => ?_
  refine tE.bindS rel er h9 fun d η1 ρ1 H1 ov e1 r1 er1 p1 h1 => ?_
  refine tE.bindS r1 er1 h1 fun k η2 ρ2 H2 iv e2 r2 er2 p2 h2 => ?_
  unfold getL at h2
  split at h2
  · rename_i zs j ql
    by_cases hj : 0 ≤ j
    · rw [if_pos hj] at h2
      split at h2
      · rename_i x qx
        obtain ⟨t', vs, rfl, h3, h4⟩ := r2.lstOf ql (p1.mono e2)
        obtain ⟨v, h5, h6⟩ := h4.get qx
        refine ⟨t', vs, j, v, rfl, p2.intv, .inl (.inl h3), hj, h5, tE.bindS r2 er2 h2 fun y η4 ρ4 H4 w e4 r4 er4 p4 h7 => ?_⟩
        split at h7
        · rename_i z1 z2
          cases qs : setItemD d (.int j) (.int (z1 + z2)) η4 with
          | ok u η5 =>
            rw [qs] at h7
            refine ⟨z1, z2, h6.intv, p4.intv, hs2 ρ4 η4 η5 H4 d (.int j) (.int (z1 + z2)) _ iv _ _ r4 ((p1.mono e2).mono e4) (p2.mono e4) (.int _) qs fun H5 e5 r5 => ?_⟩
            exact h7 ρ4 H5 σ e5 r5 (er4.mono e5)
          | exc c η5 => rw [qs] at h7; exact h7.elim
          | bad => rw [qs] at h7; exact h7.elim
        · exact h7.elim
      · exact h2.elim
    · rw [if_neg hj] at h2
      exact h2.elim
  · exact h2.elim
/-! ### raise, try -/
abbrev wx (W : L2.St → XK) : WX := fun cls d σ H => W σ cls d H
/-- an exception class's facts -/
def ExcAt (X : Cx) (C : Addr) : Prop := ∃ (B newId initId : String) (bmB : List Value), ExcBaseFacts B newId initId bmB ∧ PySem.W.excIn X.K C bmB newId = true ∧ PySem.W.keepIn X.K (.ref C) = true ∧ Raises X (.ref C)
theorem s_raise {x m : Str} {c j : Nat} {q p2 p3 : Pos} (hc : X.calm = true) (tk : L2N.Takes X (wx W)) (hg : Gl X x) (hm : X.mg x = some (.ref (a.X c))) (h1 : (x == ("__debug__" : Str)) = false) (he : ExcAt X (a.X c)) : PS X (.Raise (some (.Call (.Name x q) [.Constant (.str m) j p2] [] p3)) none pos) (tS X.K a W (sRaise c)) := by
  obtain ⟨B, newId, initId, bmB, F, e1, e2, e3⟩ := he
  refine (L2N.ps_raise hc tk (L2N.pmk_own F e1 hm e2 e3 hg h1)).imp fun T σ H ⟨ρ, η, env, rel, er, h⟩ => ?_
  exact h ρ H σ (Ext.refl _ _) rel er
theorem cst_of : ∀ {e : Expr} {d : D}, cstD e = some d → ∀ (X : Cx), PE X e (tE X.K a W (xC d)) := fun {e d} h X => by
  unfold cstD at h
  split at h <;> first
    | (cases h; exact s_int)
    | (cases h; exact s_bl)
    | (cases h; exact s_str)
    | (cases h; exact s_non)
    | cases h
def lstC (ds : List D) : Lst := fun _ η => .ok ds η
theorem cstL_of : ∀ {es : List Expr} {ds : List D}, cstL es = some ds → ∀ (X : Cx), PA X es (tL X.K a W (lstC ds))
  | [], ds, h, X => by
    cases h
    exact s_nil
  | e :: r, ds, h, X => by
    unfold cstL at h
    split at h
    · rename_i d dr q1 q2
      cases h
      have hs : noStar e = true := by cases e <;> first | rfl | cases q1
      refine (s_cons hs (cst_of q1 X) (cstL_of q2 X)).imp fun σ H Q ⟨ρ, η, env, rel, er, h⟩ => ⟨ρ, η, env, rel, er, h⟩
    · cases h
theorem suite_of {suite : List Stmt} {s : Stm} (h : evSuite suite = some s) (X : Cx) : ∃ b r, suite = b :: r ∧ PSs X suite (tS X.K a W s) := by
  unfold evSuite at h
  split at h
  · rename_i es k q1 q2
    cases qc : cstL es with
    | none => rw [qc] at h; cases h
    | some ds =>
      rw [qc] at h
      by_cases hl : ds.length ≤ 8
      · have h : (if ds.length ≤ 8 then some fun _ η => RS.ret (D.tup ds) η else none) = some s := h
        rw [if_pos hl] at h
        cases h
        refine ⟨_, _, rfl, (s_scons (a := a) (W := W) (s_ret (s_tup (cstL_of qc X))) s_snil).imp fun T σ H ⟨ρ, η, env, rel, er, h⟩ => ⟨ρ, η, env, rel, er, ?_⟩⟩
        have h8 : ds.length ≤ sizeLine := by rw [sizeLine_eq]; omega
        show OutS X.K a W ρ H (sSeq (sRet (xTup (lstC ds))) sPass env η) T
        have e9 : sSeq (sRet (xTup (lstC ds))) sPass env η = .ret (.tup ds) η := by
          simp [sSeq, sRet, xTup, lstC, R.bind, RS.ofE, h8]
        rw [e9]
        exact h
      · have h : (if ds.length ≤ 8 then some fun _ η => RS.ret (D.tup ds) η else none) = some s := h
        rw [if_neg hl] at h
        cases h
  · rename_i e q1 _
    cases qc : cstD e with
    | none => rw [qc] at h; cases h
    | some d =>
      rw [qc] at h
      cases h
      exact ⟨_, _, rfl, (s_scons (a := a) (W := W) (s_ret (cst_of qc X)) s_snil).imp fun T σ H ⟨ρ, η, env, rel, er, h⟩ => ⟨ρ, η, env, rel, er, h⟩⟩
  · cases h
    exact ⟨_, _, rfl, (s_scons (a := a) (W := W) s_brk s_snil).imp fun T σ H ⟨ρ, η, env, rel, er, h⟩ => ⟨ρ, η, env, rel, er, h⟩⟩
  · cases h
/-- the clauses' facts: what the layer asks of each -/
inductive Hds (X : Cx) (a : Ad) (G : Gst) : List ExceptHandler → List (List Nat × Stm) → Prop
  | nil : Hds X a G [] []
  | cons {x : Str} {c : Nat} {suite : List Stmt} {s : Stm} {np pos' : Pos} {hds : List ExceptHandler} {l : List (List Nat × Stm)} (hc : Names X x (.ref (a.X c))) (hs : evSuite suite = some s) (r : Hds X a G hds l) :
      Hds X a G (.ExceptHandler (some (.Name x np)) none suite pos' :: hds) (([c], s) :: l)
/-- the layer's own list -/
def wl (K : PySem.W.Frag) (a : Ad) (W : L2.St → XK) : List (List Nat × Stm) → List (Value × (Addr → Value → Option Addr → TS))
  | [] => []
  | (cs, s) :: r => (.ref (a.X (cs.headD 0)), fun _ _ _ => tS K a W s) :: wl K a W r
theorem Hds.ok {hds : List ExceptHandler} {l : List (List Nat × Stm)} (h : Hds X a G hds l) : L2N.HdsOk X hds (wl X.K a W l) := by
  induction h with
  | nil => exact .nil
  | @cons x c suite s np pos' hds l hc hs r ih =>
    obtain ⟨b, rs, rfl, _⟩ := suite_of (a := a) (W := W) hs X
    refine .cons hc (fun u oe cls d pn _ _ => ?_) ih
    obtain ⟨_, _, e, h2⟩ := suite_of (a := a) (W := W) hs (X.suite u ((u, oe) :: pn))
    exact h2
theorem Hds.many {hds : List ExceptHandler} {l : List (List Nat × Stm)} (h : Hds X a G hds l) (hsub : ∀ c d, c < G.nx → d < G.nx → PySem.W.exmOne X.K (.ref (a.X c)) (.ref (a.X d)) = some (G.sub c d)) {c : Nat} {env : Ev} {η : Hv} {ρ : List Addr} {H : Hp} {σ : L2.St} {T : Ends}
    (rel : Rel X.K a.C ρ η H) (er : EnvR X.K ρ H env σ) (h9 : OutS X.K a W ρ H (catchS G c env η l) T) : wMany X.K (wx W) T (wl X.K a W l) (.ref (a.X c)) none σ H := by
  induction h with
  | nil => exact h9 ρ H σ (Ext.refl _ _) rel er
  | @cons x d suite s np pos' hds l hc hs r ih =>
    unfold catchS at h9
    by_cases hz : (decide (c < G.nx) && [d].all (fun d => decide (d < G.nx))) = true
    · rw [if_pos hz] at h9
      rw [Bool.and_eq_true] at hz
      have h1 := of_decide_eq_true hz.1
      have h2 : d < G.nx := by
        have := hz.2
        rw [List.all_cons, Bool.and_eq_true] at this
        exact of_decide_eq_true this.1
      refine ⟨G.sub c d, hsub c d h1 h2, fun hb z _ => ?_, fun hb => ih ?_⟩
      · have h3 : [d].any (G.sub c) = true := by rw [List.any_cons, hb]; rfl
        rw [if_pos h3] at h9
        exact ⟨ρ, η, env, rel, er, h9⟩
      · have h3 : ¬ [d].any (G.sub c) = true := by rw [List.any_cons, hb]; exact Bool.false_ne_true
        rw [if_neg h3] at h9
        exact h9
    · rw [if_neg hz] at h9
      exact h9.elim
theorem s_try {body : List Stmt} {h0 : ExceptHandler} {hds : List ExceptHandler} {s : Stm} {l : List (List Nat × Stm)} (hs : X.stack = X.env :: X.outer) (hf : X.env.frame = some X.env.locals) (tk : L2N.Takes X (wx W)) (hsub : ∀ c d, c < G.nx → d < G.nx → PySem.W.exmOne X.K (.ref (a.X c)) (.ref (a.X d)) = some (G.sub c d))
    (hb : ∀ (W' : L2.St → XK) (pn : List (Addr × Obj)) (xe : Value → Shared → Prop), L2N.Takes (X.tr pn xe) (wx W') → PassesOwn (model X.prog X.w) X.A X.env xe → PSs (X.tr pn xe) body (tS X.K a W' s)) (hh : Hds X a G (h0 :: hds) l) : PS X (.Try body (h0 :: hds) [] [] pos) (tS X.K a W (sTry G s l)) := by
  have main := L2N.ps_try_many (pos := pos) (tb := fun Wx => tS X.K a (fun σ cls d H => Wx cls d σ H) s) hs hf tk (fun Wx pn xe h1 h2 => hb (fun σ cls d H => Wx cls d σ H) pn xe h1 h2) (hh.ok (W := W))
  refine main.imp fun T σ H ⟨ρ, η, env, rel, er, h⟩ => ⟨ρ, η, env, rel, er, ?_⟩
  unfold sTry at h
  cases q : s env η with
  | exc c env1 η1 =>
    simp only [q] at h
    exact fun ρ1 H1 σ1 e1 r1 er1 => hh.many hsub r1 er1 (OutS.ext e1 h)
  | nxt env1 η1 => simp only [q] at h; exact h
  | ret d η1 => simp only [q] at h; exact h
  | brk env1 η1 => simp only [q] at h; exact h
  | cnt env1 η1 => simp only [q] at h; exact h
  | bad => simp only [q] at h; exact h
end
end En
end

section
set_option maxRecDepth 100000
set_option maxHeartbeats 4000000
/-! FA: sets of ints out of a comprehension, and how many they hold. -/
namespace En
open PySem PySem.Spec PyProof.Rows L2
/-- {elt for tg in it if ..}, elt an int: Dz the set that is filled, Wv told by the turn and a number that falls -/
def tSI (w : World) (ti : TI) (g : TG) (tt : TT) (te : TE) (vs : List Nat) : TE := fun σ H Q => ti σ H fun J H1 => ∀ Dz, H1 Dz = none →
  ∃ Wv : Nat → Nat → Hp → Prop, (∃ m, Wv 0 m (upd H1 Dz (SetO w Dz (fun _ => false) 0))) ∧ ∀ i m Hi, Wv i m Hi →
    (J.stop i Hi ∧ Q (.ref Dz) Hi) ∨
    (J.go i Hi ∧ ∃ Nx : Hp → Prop, (∀ Hn, Nx Hn → ∃ m', m' < m ∧ Wv (i + 1) m' Hn) ∧ ∀ x Hy, J.yld i Hi x Hy → g x (wipe σ vs) Hy fun σg Hg => wipe σg vs = wipe σ vs ∧
      tt σg Hg fun b Ht => if b = true then te σg Ht fun y He => ∃ (k : Int) (S : Int → Bool) (n : Nat), y = .int k ∧ He Dz = some (SetO w Dz S n) ∧ n + 1 < scanBound ∧
        Nx (upd He Dz (SetO w Dz (fun j => S j || decide (j = k)) (if S k = true then n else n + 1))) else Nx Ht)
section
variable {X : Cx}
theorem add_int {pins : List (Addr × Obj)} {σ : L2.St} {H : Hp} {s : Shared} {E : Value → Shared → Prop} {Dz : Addr} {S : Int → Bool} {n : Nat} {k : Int} {t : Tok} {Q : Value → Shared → Prop} (I : Inv X pins σ H s) (hD : H Dz = some (SetO X.w Dz S n)) (hn : n + 1 < scanBound)
    (h : ∀ s', Inv X pins σ (upd H Dz (SetO X.w Dz (fun j => S j || decide (j = k)) (if S k = true then n else n + 1))) s' → Q .none s') : wpAny (model X.prog X.w) X.A (call (.builtin "set.add") [.ref Dz, .int k t]) Q E s :=
  setR_add (setO_get I hD) hn fun hp sb new => h _ (I.write (e := Dz) (t' := s.toks + 1) (by rw [hD]; trivial) (.inl rfl) (fun b u hb hu => (sb.2 b hb).trans hu)
    (by obtain ⟨o, _, _, _, ho, _⟩ := new; exact ⟨o, ho⟩) (setO_new new))
theorem pe_scI {elt tg iter : Expr} {ifs : List Expr} {scope : Scope} {own : List (Str × Nat)} {pos : Pos} {ti : TI} {g : TG} {tt : TT} {te : TE}
    (hc : X.calm = true) (hN : X.N.Nodup) (hi : PI X tg iter ti) (ok : BlkOk X.N X.env.scope scope own)
    (hg : ∀ (s : Shared) (H : Hp) (C : Addr) (cl : List (Str × Addr)) (fp : List Addr), PG (X.blk s H scope (compEnvC scope cl C X.env) fp) tg g)
    (ht : ∀ (s : Shared) (H : Hp) (C : Addr) (cl : List (Str × Addr)) (fp : List Addr), PTs (X.blk s H scope (compEnvC scope cl C X.env) fp) ifs tt)
    (he : ∀ (s : Shared) (H : Hp) (C : Addr) (cl : List (Str × Addr)) (fp : List Addr), PE (X.blk s H scope (compEnvC scope cl C X.env) fp) elt te)
    (hs : ∀ x, foldedSetIterable iter X.env x = pure x) : PE X (.SetComp elt [⟨tg, iter, ifs, 0⟩] scope pos) (tSI X.w ti g tt te (own.map (·.2))) := by
  refine ⟨fun pins s0 σ H0 Q I0 hq => ?_⟩
  rw [PySem.arm_eval_SetComp]
  have free : ∀ y ∈ scope.names, y.2 = .free → ∃ c, X.env.cells.lookup y.1 = some c := fun y hy e => (ok.free y hy e).elim (fun z => I0.ok.has _ (.inl z)) fun z => I0.ok.has _ (.inr z)
  refine wpAny_comprehension_free (use := none) rfl hs (closure_ok free) ok.kind (fun y hy e => by rw [ok.uniq y hy, e]) (thn (hi.run pins s0 σ H0 _ I0 hq) fun xv sa ha => thn ha fun iv sb hb => ?_)
  obtain ⟨it, fp, tn, J, Hb, rfl, Ib, T, stb, fb, q⟩ := hb
  refine PySem.wpAny_newSet_raw fun led hled => newEnv_comp ?_
  subst hled
  -- the set stands at Dz, the block's names at Cz
  obtain ⟨Dz, eD⟩ : ∃ Dz, Dz = sb.heap.objs.size := ⟨_, rfl⟩
  obtain ⟨sc, eS⟩ : ∃ sc : Shared, sc = { sb with heap := sb.heap.push { cls := .type "set", dict := none, data := .set #[] 0 (.fresh 0 0 (!X.w.params.followText "set-order")) } } := ⟨_, rfl⟩
  have eh : sc.heap = sb.heap.push { cls := .type "set", dict := none, data := .set #[] 0 (.fresh 0 0 (!X.w.params.followText "set-order")) } := by rw [eS]
  have nD : Hb Dz = none := Ib.hok.fresh (Nat.le_of_eq eD.symm)
  obtain ⟨Wv, ⟨m0, w0⟩, turn⟩ := q Dz nD
  obtain ⟨Hc, eH⟩ : ∃ Hc, Hc = upd Hb Dz (SetO X.w Dz (fun _ => false) 0) := ⟨_, rfl⟩
  rw [← eH] at w0
  have Ic : Inv X pins σ Hc sc := by
    rw [eS, eH]
    refine Ib.laid (t' := sb.toks) (fun b o e => Heap.get?_push_of_some _ e) (Nat.le_of_eq eD.symm) ?_
    rw [eD]
    exact setO_new (setR_fresh X.w)
  have small : ∀ b ∈ fp, b < sb.heap.objs.size := fun b hb => by
    obtain ⟨o, e, _⟩ := T.obj _ _ stb b hb
    exact Heap.lt_size e
  have fc : ∀ b ∈ fp, FpOk X pins Hc b ∧ b < sc.heap.objs.size := fun b hb => by
    refine ⟨⟨?_, (fb b hb).2⟩, ?_⟩
    · rw [eH, upd_ne (by rw [eD]; exact Nat.ne_of_lt (small b hb))]
      exact (fb b hb).1
    · rw [eh, Heap.size_push]
      exact Nat.lt_succ_of_lt (small b hb)
  have stc : tn 0 sc.heap := T.keep _ _ _ stb fun b _ o e => by rw [eh]; exact Heap.get?_push_of_some _ e
  have Id := block_start Ic ok hN fc
  obtain ⟨ce, eC⟩ : ∃ ce, ce = compEnvC scope (cellsFrom (sc.heap.objs.size + 1) scope.names (cloFrom X.env.cells scope.names [])) sc.heap.objs.size X.env := ⟨_, rfl⟩
  obtain ⟨sd, eT⟩ : ∃ sd : Shared, sd = { sc with heap := pushCells (sc.heap.push { cls := .type "dict", data := .dict #[] }) scope.names } := ⟨_, rfl⟩
  have pg := hg sc Hc sc.heap.objs.size (cellsFrom (sc.heap.objs.size + 1) scope.names (cloFrom X.env.cells scope.names [])) fp
  have pt := ht sc Hc sc.heap.objs.size (cellsFrom (sc.heap.objs.size + 1) scope.names (cloFrom X.env.cells scope.names [])) fp
  have pe := he sc Hc sc.heap.objs.size (cellsFrom (sc.heap.objs.size + 1) scope.names (cloFrom X.env.cells scope.names [])) fp
  subst Hc
  rw [← eC] at Id pg pt pe
  rw [← eT] at Id
  have loc : ce.locals = sc.heap.objs.size := by subst eC; rfl
  have none0 : ∀ b ∈ fp, (upd Hb Dz (SetO X.w Dz (fun _ => false) 0)) b = none := fun b hb => (fc b hb).1.1
  have std : tn 0 sd.heap := T.keep _ _ _ stc fun b _ o e => by rw [eT]; exact pushCells_keeps _ _ _ _ (Heap.get?_push_of_some _ e)
  generalize eG : upd Hb Dz (SetO X.w Dz (fun _ => false) 0) = Hc at Ic Id pg pt pe w0 none0 fc
  have still : ∀ {σ' : L2.St} {H' : Hp} {s' : Shared}, Inv (X.blk sc Hc scope ce fp) [] σ' H' s' → (∀ b ∈ fp, H' b = none) → ∀ b ∈ fp, FpOk (X.blk sc Hc scope ce fp) [] H' b := fun {σ' H' s'} J' hn b hb =>
    ⟨hn b hb, (J'.ok.exf b hb).1, J'.ok.exfs b hb, .inl hb, fun x c e => (J'.ok.exf b hb).2 x c e, fun p hp => by simp at hp⟩
  have key : codeAny (model X.prog X.w) X.A (.compLoop (.SetComp elt [⟨tg, iter, ifs, 0⟩] scope pos) 0 (.ref it) (.ref Dz) ce) (compPost (model X.prog X.w) X.A X.xe none (EP X pins σ Q) (.ref Dz) sc.heap.objs.size) sd := by
    refine PySem.compLoop_set_any (fun m s' => ∃ i H', Inv (X.blk sc Hc scope ce fp) [] (wipe σ (own.map (·.2))) H' s' ∧ tn i s'.heap ∧ (∀ b ∈ fp, H' b = none) ∧ Wv i m H') ?_ m0 ⟨0, Hc, Id, std, none0, w0⟩
    rintro m s5 ⟨i, H5, I5, st5, n5, w5⟩
    rcases turn i m H5 w5 with ⟨stop, fin⟩ | ⟨go, Nx, toNx, step⟩
    · refine thnF (T.done (X.blk sc Hc scope ce fp) rfl rfl rfl hc i [] s5 _ H5 (fun _ _ => False) I5 (still I5 n5) st5 stop) fun r s6 ⟨hr, I6⟩ => ?_
      subst hr
      have I7 : Inv X pins σ H5 s6 := Ic.call' (ch := fp) I6.os I6.base I6.hok I6.bare fun b hb => ⟨(fc b hb).1.2.2.2.1, (fc b hb).1.2.1, (fc b hb).1.2.2.2.2.1, (fc b hb).1.2.2.2.2.2⟩
      have nC : H5 sc.heap.objs.size = none := by rw [← loc]; exact I6.free
      obtain ⟨nm, hn, _⟩ := I6.loc
      have hn : s6.heap.Ns sc.heap.objs.size nm := by rw [← loc]; exact hn
      obtain ⟨f0, f1, f2, f3, f4, f5⟩ := Ic.fpOk (Nat.le_refl _) nC
      exact ⟨nm, hn, fun h2 sb2 => ⟨.ref Dz, H5, I7.turned (t' := s6.toks) (fun b o hb e => (sb2.2 b hb).trans e) f0 f1 f3 f4 f5, rfl, fin⟩⟩
    · refine thnF (T.item (X.blk sc Hc scope ce fp) rfl rfl rfl hc i [] s5 _ H5 (fun _ _ => False) I5 (still I5 n5) st5 go) fun r s6 ⟨u, hr, h6⟩ => ?_
      subst hr
      refine thnF h6 fun _ s7 ⟨x, H7, I7, r7, y7, st7, n7⟩ => ?_
      refine thnF (pg.run _ s7 _ H7 x u _ (I7.pinned (still I7 n7) (T.obj _ _ st7)) r7 (step x H7 y7)) fun _ s8 ⟨σ8, H8, I8, hw8, q8⟩ => ?_
      refine thnF (pt.run _ s8 σ8 H8 _ I8 q8) fun b s9 ⟨H9, I9, q9⟩ => ?_
      have back : ∀ {s' : Shared} {H' : Hp}, Inv (X.blk sc Hc scope ce fp) ([] ++ pinsAt fp s7.heap) σ8 H' s' → Nx H' → ∃ m', m' < m ∧ ∃ i H', Inv (X.blk sc Hc scope ce fp) [] (wipe σ (own.map (·.2))) H' s' ∧ tn i s'.heap ∧ (∀ b ∈ fp, H' b = none) ∧ Wv i m' H' := fun {s' H'} J' nx => by
        obtain ⟨m', hm, w'⟩ := toNx H' nx
        have held : ∀ b ∈ fp, ∀ o, s7.heap.get? b = some o → s'.heap.get? b = some o ∧ H' b = none := fun b hb o e => by
          have z := J'.pin (b, o) (List.mem_append_right _ (List.mem_append_right _ (mem_pinsAt hb e)))
          exact ⟨z.1, z.2.1⟩
        refine ⟨m', hm, i + 1, H', (J'.unpinned (pins := [])).weak (by rw [← hw8, wipe_length]) (fun j v e => ?_), T.keep _ _ _ st7 fun b hb o e => (held b hb o e).1, fun b hb => ?_, w'⟩
        · rw [← hw8] at e
          exact (wipe_some e).1
        · obtain ⟨o, e, _⟩ := T.obj _ _ st7 b hb
          exact (held b hb o e).2
      cases b with
      | false =>
        rw [if_neg Bool.false_ne_true] at q9
        show (if false = true then _ else _ : Prop)
        rw [if_neg Bool.false_ne_true]
        exact back I9 q9
      | true =>
        rw [if_pos rfl] at q9
        show (if true = true then _ else _ : Prop)
        rw [if_pos rfl]
        refine thnF (pe.run _ s9 σ8 H9 _ I9 q9) fun z s10 ⟨yv, H10, I10, r10, k, S, n, ey, hD10, hz10, nx⟩ => ?_
        subst ey
        obtain ⟨tk, rfl⟩ := r10
        exact add_int (X := X.blk sc Hc scope ce fp) I10 hD10 hz10 fun s11 I11 => back I11 nx
  have fin := PySem.codeAny_compStart_set (rest := []) key (T.self X.A 0 _ _ _ std key)
  rw [eC, eT, eS, eD] at fin
  rw [eS, eD] at *
  exact fin
/-- how many a set holds -/
theorem cr_lenSI : CallR X (.builtin "len") (fun xs H Q => ∃ (p : Addr) (S : Int → Bool) (n : Nat), xs = [.ref p] ∧ H p = some (SetO X.w p S n) ∧ Q (.int n) H) := by
  intro pins s σ H xs us Q I r h
  obtain ⟨p, S, n, rfl, hp, q⟩ := h
  obtain ⟨u, rfl, rx⟩ := vals1 r
  cases rx
  obtain ⟨o, es, ep, t, ho, hex, hd, _, _, _, hs, hf, hn, _⟩ := setO_get I hp
  exact call_len_set ho hex hd hf (by unfold scanBound at hs; omega) ⟨.int n, H, I.tok _, ⟨_, by rw [hn]⟩, q⟩
end
end En
end

section
set_option maxRecDepth 100000
set_option maxHeartbeats 4000000
/-! FB: how many a set holds; comprehensions of two fors; f-strings; slices with a step. -/
namespace En
open PySem PySem.Spec PyProof.Rows L2
/-! ### a set's object changes -/
theorem setO_ne_code {w : World} {p c : Addr} {S : Int → Bool} {n : Nat} {q : Str} : SetO w p S n ≠ LamX.CodeO c q := fun e => by
  unfold SetO LamX.CodeO at e
  injection e with e
  obtain ⟨hh, eh⟩ : ∃ hh : Heap, hh = ⟨Array.replicate (p + c + 1) { cls := .none, data := .fields #[.none, .str q 0] }, {}⟩ := ⟨_, rfl⟩
  have at_ : ∀ b, b < p + c + 1 → hh.get? b = some { cls := .none, data := .fields #[.none, .str q 0] } := fun b hb => by
    rw [eh]
    unfold Heap.get?
    rw [Array.getElem?_replicate, if_pos hb]
  have z := congrFun e hh
  have y : SetR w hh p S n := by
    rw [show SetR w hh p S n = _ from z]
    exact ⟨_, _, 0, at_ c (by unfold Addr at *; omega), rfl, rfl⟩
  obtain ⟨o, es, ep, t, ho, _, hd, _⟩ := y
  rw [at_ p (by unfold Addr at *; omega)] at ho
  cases ho
  cases hd
section
variable {K : PySem.W.Frag} {CA : CAt} {ρ : List Addr} {H : Hp} {p : Addr} {w : World} {S : Int → Bool} {n : Nat} {o : HO}
theorem rd_out (hp : H p = some (SetO w p S n)) {b : Addr} {u : HO} (h : Rd H b u) (hu : ∀ φ, u ≠ .ext φ) : Rd (upd H p o) b u := by
  have ne : b ≠ p := fun e => by
    subst e
    rcases h with h | ⟨z, h⟩
    · rw [hp] at h
      cases h
      exact hu _ rfl
    · rw [hp] at h
      cases h
  rcases h with h | ⟨z, h⟩
  · exact .inl (by rw [upd_ne ne]; exact h)
  · exact .inr ⟨z, by rw [upd_ne ne]; exact h⟩
mutual
theorem Rep.out (hp : H p = some (SetO w p S n)) : ∀ {d : D} {v : V}, Rep K ρ H d v → Rep K ρ (upd H p o) d v
  | _, _, .non => .non
  | _, _, .bl b => .bl b
  | _, _, .int i => .int i
  | _, _, .str s => .str s
  | _, _, .tup h n r => .tup (rd_out hp h (fun _ z => nomatch z)) n (Reps.out hp r)
  | _, _, .ktup h r => .ktup h (Reps.out hp r)
  | _, _, .lst h n r => .lst (by rw [upd_ne fun e => by rw [e, hp] at h; cases h]; exact h) n (Reps.out hp r)
  | _, _, .scr h n r => .scr (rd_out hp h (fun _ z => nomatch z)) n (Reps.out hp r)
  | _, _, .kscr h r => .kscr h (Reps.out hp r)
  | _, _, .ref h => .ref h
theorem Reps.out (hp : H p = some (SetO w p S n)) : ∀ {d : List D} {v : List V}, Reps K ρ H d v → Reps K ρ (upd H p o) d v
  | _, _, .nil => .nil
  | _, _, .cons h r => .cons (Rep.out hp h) (Reps.out hp r)
end
theorem Rel.out {η : Hv} (rel : Rel K CA ρ η H) (hp : H p = some (SetO w p S n)) (np : p ∉ ρ) : Rel K CA ρ η (upd H p o) := by
  refine ⟨rel.len, rel.nd, fun i u b h1 h2 => ?_, tabs_put rel.tabs hp ⟨(fun _ z => nomatch z), fun c q => setO_ne_code⟩⟩
  · have hb : b ≠ p := fun e => np (e ▸ List.mem_of_getElem? h2)
    have h3 := rel.ob i u b h1 h2
    cases u with
    | lst ds => obtain ⟨vs, g1, g2⟩ := h3; exact ⟨vs, by rw [upd_ne hb]; exact g1, g2.out hp⟩
    | dct kvs => obtain ⟨kv, g1, g2, g3⟩ := h3; exact ⟨kv, by rw [upd_ne hb]; exact g1, g2, g3.out hp⟩
    | ins c fs => obtain ⟨dx, fv, g1, g2, g3⟩ := h3; exact ⟨dx, fv, by rw [upd_ne hb]; exact g1, g2, g3.out hp⟩
end
/-! ### len({..}) -/
section
variable {X : Cx} {a : Ad} {G : Gst} {W : L2.St → XK} {pos p : Pos}
theorem setT (n k : Nat) (S : List Int) {it : Itv} {g : Tgt} {t : Tst} {m : Exp} {env : Ev} {η : Hv} : setN it g t m env (n + 1) k S η = match nextI it k η with
  | none => .bad
  | some none => .ok S η
  | some (some d) => (g d env η).bind fun env1 η1 => (t env1 η1).bind fun b η2 => if b then (m env1 η2).bind fun x η3 => match x with
      | .int j => if S.length < 4000 then setN it g t m env n (k + 1) (if S.contains j then S else j :: S) η3 else .bad
      | _ => .bad
    else setN it g t m env n (k + 1) S η2 := rfl
abbrev SetL (w : World) (p : Addr) (S : List Int) : HO := SetO w p (fun j => S.contains j) S.length
theorem setL_add {w : World} {p : Addr} {S : List Int} {k : Int} : SetO w p (fun j => S.contains j || decide (j = k)) (if S.contains k = true then S.length else S.length + 1) = SetL w p (if S.contains k then S else k :: S) := by
  by_cases h : S.contains k = true
  · rw [if_pos h, if_pos h]
    have : (fun j => S.contains j || decide (j = k)) = fun j => S.contains j := by
      funext j
      by_cases e : j = k
      · subst e; rw [h]; rfl
      · simp [e]
    rw [this]
  · rw [if_neg h, if_neg h]
    have : (fun j => S.contains j || decide (j = k)) = fun j => (k :: S).contains j := by
      funext j
      rw [List.contains_cons, Bool.or_comm]
      congr 1
    rw [this]
    rfl
theorem set_core {it : Itv} {g : Tgt} {t : Tst} {m : Exp} {env : Ev} {n : Nat} {η η9 : Hv} {ρ : List Addr} {H : Hp} {σ : L2.St} {J : It} {own : List Nat} {S9 : List Int} {Q : VK} (ok : ItOk X.K a it J ρ H) (rel : Rel X.K a.C ρ η H) (er : EnvR X.K ρ H env σ)
    (h : setN it g t m (wipeE env own) n 0 [] η = .ok S9 η9) (hq : ∀ ρ' H' q, Ext ρ H ρ' H' → Rel X.K a.C ρ' η9 H' → H' q = some (SetL X.w q S9) → Q (.ref q) H') :
    ∀ q, H q = none → ∃ Wl : Nat → Nat → Hp → Prop, (∃ k, Wl 0 k (upd H q (SetO X.w q (fun _ => false) 0))) ∧ ∀ i k H2, Wl i k H2 → (J.stop i H2 ∧ Q (.ref q) H2) ∨ (J.go i H2 ∧ ∃ Nx : Hp → Prop, (∀ H', Nx H' → ∃ k', k' < k ∧ Wl (i + 1) k' H') ∧ ∀ x H', J.yld i H2 x H' →
      tG X.K a own g x (wipe σ own) H' fun σ2 H3 => wipe σ2 own = wipe σ own ∧ tT X.K a WF t σ2 H3 fun b H4 => if b = true then tE X.K a WF m σ2 H4 fun y H5 => ∃ (j : Int) (S : Int → Bool) (n : Nat), y = .int j ∧ H5 q = some (SetO X.w q S n) ∧ n + 1 < scanBound ∧
        Nx (upd H5 q (SetO X.w q (fun z => S z || decide (z = j)) (if S j = true then n else n + 1))) else Nx H4) := by
  intro q nq
  have e0 : Ext ρ H ρ (upd H q (SetO X.w q (fun _ => false) 0)) := Ext.new rel nq
  have r0 : Rel X.K a.C ρ η (upd H q (SetO X.w q (fun _ => false) 0)) := rel.new nq
  have nr : q ∉ ρ := rel.free nq
  refine ⟨fun i k H2 => ∃ ρ2 η2 S2, Ext ρ H ρ2 H2 ∧ Rel X.K a.C ρ2 η2 H2 ∧ H2 q = some (SetL X.w q S2) ∧ q ∉ ρ2 ∧ setN it g t m (wipeE env own) k i S2 η2 = .ok S9 η9, ⟨n, ρ, η, [], e0, r0, upd_same, nr, h⟩, ?_⟩
  rintro i k H2 ⟨ρ2, η2, S2, e2, r2, hq2, n2, hc⟩
  cases k with
  | zero => cases hc
  | succ k =>
    rw [setT] at hc
    cases qn : nextI it i η2 with
    | none => simp only [qn] at hc; cases hc
    | some o =>
      cases o with
      | none =>
        simp only [qn] at hc
        have e8 : S2 = S9 := by injection hc
        have e9 : η2 = η9 := by injection hc
        exact .inl ⟨ok.stop ρ2 η2 H2 i e2 r2 qn, hq ρ2 H2 q e2 (e9 ▸ r2) (e8 ▸ hq2)⟩
      | some d =>
        simp only [qn] at hc
        obtain ⟨g1, g2⟩ := ok.go ρ2 η2 H2 i d e2 r2 qn
        refine .inr ⟨g1, fun H' => ∃ ρ2 η2 S2, Ext ρ H ρ2 H' ∧ Rel X.K a.C ρ2 η2 H' ∧ H' q = some (SetL X.w q S2) ∧ q ∉ ρ2 ∧ setN it g t m (wipeE env own) k (i + 1) S2 η2 = .ok S9 η9, fun H' z => ⟨k, Nat.lt_succ_self k, z⟩, fun x H' y => ?_⟩
        obtain ⟨ex, rx, px⟩ := g2 x H' y
        have ew : EnvR X.K ρ2 H' (wipeE env own) (wipe σ own) := ((er.mono e2).mono ex).wipe own
        refine ⟨ρ2, η2, wipeE env own, d, rx, ew, px, ?_⟩
        cases qg : g d (wipeE env own) η2 with
        | exc c η3 => rw [qg] at hc; cases hc
        | bad => rw [qg] at hc; cases hc
        | ok env3 η3 =>
          rw [qg] at hc
          simp only [R.bind] at hc
          refine fun ρ3 H3 σ3 e3 r3 er3 w3 => ⟨by rw [w3, wipe_wipe], ρ3, η3, env3, r3, er3, ?_⟩
          cases qt : t env3 η3 with
          | exc c η4 => simp only [qt] at hc; cases hc
          | bad => simp only [qt] at hc; cases hc
          | ok b η4 =>
            simp only [qt] at hc
            refine fun ρ4 H4 e4 r4 => ?_
            have e24 := (ex.trans e3).trans e4
            have h4 : H4 q = some (SetL X.w q S2) := e24.keep q _ hq2 (fun _ z => nomatch z) n2
            have n4 : q ∉ ρ4 := e24.notin hq2 (fun _ z => nomatch z) n2
            cases b with
            | false =>
              rw [if_neg (by decide)] at hc
              show ite _ _ _
              rw [if_neg (by decide)]
              exact ⟨ρ4, η4, S2, e2.trans e24, r4, h4, n4, hc⟩
            | true =>
              rw [if_pos rfl] at hc
              show ite _ _ _
              rw [if_pos rfl]
              refine ⟨ρ4, η4, env3, r4, er3.mono e4, ?_⟩
              cases qm : m env3 η4 with
              | exc c η5 => simp only [qm] at hc; cases hc
              | bad => simp only [qm] at hc; cases hc
              | ok z η5 =>
                simp only [qm] at hc
                refine fun ρ5 H5 y5 e5 r5 p5 => ?_
                have h5 : H5 q = some (SetL X.w q S2) := e5.keep q _ h4 (fun _ z => nomatch z) n4
                have n5 : q ∉ ρ5 := e5.notin h4 (fun _ z => nomatch z) n4
                split at hc
                · rename_i j
                  by_cases hl : S2.length < 4000
                  · rw [if_pos hl] at hc
                    refine ⟨j, _, _, p5.intv, h5, by unfold scanBound; omega, ?_⟩
                    rw [setL_add]
                    have eu : Ext ρ H ρ5 (upd H5 q (SetL X.w q (if S2.contains j then S2 else j :: S2))) := by
                      have e25 := e2.trans (e24.trans e5)
                      refine ⟨e25.pre, fun b u hb ht hn => ?_, e25.fresh⟩
                      rw [upd_ne (ne_of_none hb nq)]
                      exact e25.keep b u hb ht hn
                    exact ⟨ρ5, η5, _, eu, r5.out h5 n5, upd_same, n5, hc⟩
                  · rw [if_neg hl] at hc
                    cases hc
                · cases hc
theorem s_lenSet {x : Str} {q p2 : Pos} {tg it elt : Expr} {ifs : List Expr} {scope : Scope} {own : List (Str × Nat)} {i : Iex} {g : Tgt} {t : Tst} {m : Exp} (hx : Gl X "len") (hm : X.mg "len" = none) (hc : X.calm = true) (hN : X.N.Nodup) (ok : BlkOk X.N X.env.scope scope own) (hs : notSet it = true) (hi : PI X tg it (tI X.K a W i))
    (hg : ∀ (s : Shared) (H : Hp) (C : Addr) (cl : List (Str × Addr)) (fp : List Addr), PG (X.blk s H scope (compEnvC scope cl C X.env) fp) tg (tG X.K a (own.map (·.2)) g)) (ht : ∀ (s : Shared) (H : Hp) (C : Addr) (cl : List (Str × Addr)) (fp : List Addr), PTs (X.blk s H scope (compEnvC scope cl C X.env) fp) ifs (tT X.K a WF t))
    (he : ∀ (s : Shared) (H : Hp) (C : Addr) (cl : List (Str × Addr)) (fp : List Addr), PE (X.blk s H scope (compEnvC scope cl C X.env) fp) elt (tE X.K a WF m)) :
    PE X (.Call (.Name "len" q) [.SetComp elt [⟨tg, it, ifs, 0⟩] scope pos] [] p2) (tE X.K a W (xLenSet (own.map (·.2)) i g t m)) := by
  refine (pe_callB cr_lenSI hx hm boot_len (pa_cons (pe_scI hc hN hi ok hg ht he (fold_of hs)) pa_nil)).imp fun σ H Q ⟨ρ, η, env, rel, er, h⟩ => ?_
  refine ⟨ρ, η, env, rel, er, ?_⟩
  unfold xLenSet at h
  cases q : i env η with
  | exc c η1 => rw [q] at h; exact fun ρ' H' e r => h ρ' H' e r
  | bad => rw [q] at h; exact h
  | ok itv η1 =>
    rw [q] at h
    obtain ⟨S9, η2, qc, h⟩ := noExc_bind (P := fun r => Out X.K a W σ ρ H r Q) (fun z => z) h
    exact fun ρ1 H1 J e1 r1 ok => set_core (Q := fun v H' => ∃ (p : Addr) (S : Int → Bool) (n : Nat), [v] = [V.ref p] ∧ H' p = some (SetO X.w p S n) ∧ Q (.int n) H') ok r1 (er.mono e1) qc fun ρ' H' q e r hq => ⟨q, _, _, rfl, hq, h ρ' H' _ (e1.trans e) r (.int _)⟩
end
end En
end

section
set_option maxRecDepth 100000
set_option maxHeartbeats 4000000
/-! FC: comprehensions of two fors; f-strings; slices with a step. -/
namespace En
open PySem PySem.Spec PyProof.Rows L2
section
variable {X : Cx} {a : Ad} {G : Gst} {W : L2.St → XK} {pos p : Pos}
/-! ### two fors -/
theorem compT2 (n k L : Nat) (own1 : List Nat) {it : Itv} {g : Tgt} {t : Tst} {i1 : Iex} {g1 : Tgt} {t1 : Tst} {m : Exp} {env : Ev} {η : Hv} : compN2 it g t i1 g1 t1 m env own1 L (n + 1) k η = match nextI it k η with
  | none => .bad
  | some none => .ok () η
  | some (some d) => (g d env η).bind fun env1 η1 => (t env1 η1).bind fun b η2 => if b then (i1 env1 η2).bind fun it1 η3 => (compN it1 g1 t1 m (wipeE env1 own1) L (sizeI it1 η3 + 1) 0 η3).bind fun _ η4 => compN2 it g t i1 g1 t1 m env own1 L n (k + 1) η4
    else compN2 it g t i1 g1 t1 m env own1 L n (k + 1) η2 := rfl
/-- the inner loop: the list stands at q -/
theorem comp_inner {it : Itv} {g : Tgt} {t : Tst} {m : Exp} {env : Ev} {n L : Nat} {η η9 : Hv} {ρ : List Addr} {H : Hp} {σ : L2.St} {J : It} {own : List Nat} {q : Addr} {Nx : Hp → Prop} (ok : ItOk X.K a it J ρ H) (rel : Rel X.K a.C ρ η H) (er : EnvR X.K ρ H env σ) (hL : ρ[L]? = some q)
    (h : compN it g t m (wipeE env own) L n 0 η = .ok () η9) (hq : ∀ ρ' H', Ext ρ H ρ' H' → Rel X.K a.C ρ' η9 H' → Nx H') :
    ∃ Wl : Nat → Nat → Hp → Prop, (∃ k, Wl 0 k H) ∧ ∀ i k H2, Wl i k H2 → (J.stop i H2 ∧ Nx H2) ∨ (J.go i H2 ∧ ∃ Nx1 : Hp → Prop, (∀ H', Nx1 H' → ∃ k', k' < k ∧ Wl (i + 1) k' H') ∧ ∀ x H', J.yld i H2 x H' →
      tG X.K a own g x (wipe σ own) H' fun σ2 H3 => wipe σ2 own = wipe σ own ∧ tT X.K a WF t σ2 H3 fun b H4 => if b = true then tE X.K a WF m σ2 H4 fun y H5 => ∃ acc, H5 q = some (.lst acc) ∧ acc.length < sizeLine ∧ Nx1 (upd H5 q (.lst (acc ++ [y]))) else Nx1 H4) := by
  refine ⟨fun i k H2 => ∃ ρ2 η2, Ext ρ H ρ2 H2 ∧ Rel X.K a.C ρ2 η2 H2 ∧ compN it g t m (wipeE env own) L k i η2 = .ok () η9, ⟨n, ρ, η, Ext.refl _ _, rel, h⟩, ?_⟩
  rintro i k H2 ⟨ρ2, η2, e2, r2, hc⟩
  have hq2 := e2.at hL
  cases k with
  | zero => cases hc
  | succ k =>
    rw [compT] at hc
    cases qn : nextI it i η2 with
    | none => simp only [qn] at hc; cases hc
    | some o =>
      cases o with
      | none =>
        simp only [qn] at hc
        have e9 : η2 = η9 := by injection hc
        exact .inl ⟨ok.stop ρ2 η2 H2 i e2 r2 qn, hq ρ2 H2 e2 (e9 ▸ r2)⟩
      | some d =>
        simp only [qn] at hc
        obtain ⟨g1, g2⟩ := ok.go ρ2 η2 H2 i d e2 r2 qn
        refine .inr ⟨g1, fun H' => ∃ ρ2 η2, Ext ρ H ρ2 H' ∧ Rel X.K a.C ρ2 η2 H' ∧ compN it g t m (wipeE env own) L k (i + 1) η2 = .ok () η9, fun H' z => ⟨k, Nat.lt_succ_self k, z⟩, fun x H' y => ?_⟩
        obtain ⟨ex, rx, px⟩ := g2 x H' y
        have ew : EnvR X.K ρ2 H' (wipeE env own) (wipe σ own) := ((er.mono e2).mono ex).wipe own
        refine ⟨ρ2, η2, wipeE env own, d, rx, ew, px, ?_⟩
        cases qg : g d (wipeE env own) η2 with
        | exc c η3 => rw [qg] at hc; cases hc
        | bad => rw [qg] at hc; cases hc
        | ok env3 η3 =>
          rw [qg] at hc
          simp only [R.bind] at hc
          refine fun ρ3 H3 σ3 e3 r3 er3 w3 => ⟨by rw [w3, wipe_wipe], ρ3, η3, env3, r3, er3, ?_⟩
          cases qt : t env3 η3 with
          | exc c η4 => simp only [qt] at hc; cases hc
          | bad => simp only [qt] at hc; cases hc
          | ok b η4 =>
            simp only [qt] at hc
            refine fun ρ4 H4 e4 r4 => ?_
            have e24 := (ex.trans e3).trans e4
            cases b with
            | false =>
              rw [if_neg (by decide)] at hc
              show ite _ _ _
              rw [if_neg (by decide)]
              exact ⟨ρ4, η4, e2.trans e24, r4, hc⟩
            | true =>
              rw [if_pos rfl] at hc
              show ite _ _ _
              rw [if_pos rfl]
              refine ⟨ρ4, η4, env3, r4, er3.mono e4, ?_⟩
              cases qm : m env3 η4 with
              | exc c η5 => simp only [qm] at hc; cases hc
              | bad => simp only [qm] at hc; cases hc
              | ok z η5 =>
                simp only [qm] at hc
                refine fun ρ5 H5 y5 e5 r5 p5 => ?_
                have e25 := e24.trans e5
                have hq5 := e25.at hq2
                split at hc
                · rename_i acc ql
                  obtain ⟨q', vs, e6, e7, h6, h7⟩ := r5.lst ql (.ref hq5)
                  cases e6
                  by_cases hl : acc.length < sizeLine
                  · rw [if_pos hl] at hc
                    have e8 : Ext ρ5 H5 ρ5 (upd H5 q (.lst (vs ++ [y5]))) := Ext.put (List.mem_of_getElem? hq5)
                    exact ⟨vs, h6, by rw [← h7.length]; exact hl, ρ5, _, (e2.trans e25).trans e8, r5.put (o := .lst (acc ++ [z])) hq5 ⟨_, upd_same, (h7.app (.cons p5 .nil)).mono e8⟩, hc⟩
                  · rw [if_neg hl] at hc; cases hc
                · cases hc
theorem comp2_read {i : Iex} {g : Tgt} {t : Tst} {i1 : Iex} {g1 : Tgt} {t1 : Tst} {m : Exp} {own own1 : List Nat} {σ : L2.St} {H : Hp} {Q : VK} (h : tE X.K a W (xComp2 own own1 i g t i1 g1 t1 m) σ H Q) :
    tLc2 (tI X.K a W i) (tG X.K a own g) (tT X.K a WF t) (tI X.K a WF i1) (tG X.K a own1 g1) (tT X.K a WF t1) (tE X.K a WF m) own own1 σ H Q := by
  obtain ⟨ρ, η, env, rel, er, h⟩ := h
  refine ⟨ρ, η, env, rel, er, ?_⟩
  unfold xComp2 at h
  cases q : i env η with
  | exc c η1 => rw [q] at h; exact fun ρ' H' e r => h ρ' H' e r
  | bad => rw [q] at h; exact h
  | ok itv η1 =>
    rw [q] at h
    obtain ⟨u, η9, qc, h⟩ := noExc_bind (P := fun r => Out X.K a W σ ρ H r Q) (fun z => z) h
    refine fun ρ1 H1 J e1 r1 ok q nq => ?_
    have er1 := er.mono e1
    have e0 := Ext.alloc (o := .lst []) nq (r1.free nq)
    have r0 := r1.alloc (u := .lst []) (o := .lst []) nq ⟨[], upd_same, .nil⟩
    have q0 : (ρ1 ++ [q])[η1.length]? = some q := by
      rw [List.getElem?_append_right (by rw [r1.len]; exact Nat.le_refl _), r1.len, Nat.sub_self]
      rfl
    refine ⟨fun i k H2 => ∃ ρ2 η2, Ext ρ1 H1 ρ2 H2 ∧ Rel X.K a.C ρ2 η2 H2 ∧ ρ2[η1.length]? = some q ∧ compN2 itv g t i1 g1 t1 m (wipeE env own) own1 η1.length k i η2 = .ok u η9, ⟨_, ρ1 ++ [q], η1 ++ [.lst []], e0, r0, q0, qc⟩, ?_⟩
    rintro i k H2 ⟨ρ2, η2, e2, r2, hq2, hc⟩
    cases k with
    | zero => cases hc
    | succ k =>
      rw [compT2] at hc
      cases qn : nextI itv i η2 with
      | none => simp only [qn] at hc; cases hc
      | some o =>
        cases o with
        | none =>
          simp only [qn] at hc
          have e9 : η2 = η9 := by injection hc
          exact .inl ⟨ok.stop ρ2 η2 H2 i e2 r2 qn, h ρ2 H2 _ (e1.trans e2) (e9 ▸ r2) (.ref hq2)⟩
        | some d =>
          simp only [qn] at hc
          obtain ⟨j1, j2⟩ := ok.go ρ2 η2 H2 i d e2 r2 qn
          refine .inr ⟨j1, fun H' => ∃ ρ2 η2, Ext ρ1 H1 ρ2 H' ∧ Rel X.K a.C ρ2 η2 H' ∧ ρ2[η1.length]? = some q ∧ compN2 itv g t i1 g1 t1 m (wipeE env own) own1 η1.length k (i + 1) η2 = .ok u η9, fun H' z => ⟨k, Nat.lt_succ_self k, z⟩, fun x H' y => ?_⟩
          obtain ⟨ex, rx, px⟩ := j2 x H' y
          have ew : EnvR X.K ρ2 H' (wipeE env own) (wipe σ own) := ((er1.mono e2).mono ex).wipe own
          refine ⟨ρ2, η2, wipeE env own, d, rx, ew, px, ?_⟩
          cases qg : g d (wipeE env own) η2 with
          | exc c η3 => rw [qg] at hc; cases hc
          | bad => rw [qg] at hc; cases hc
          | ok env3 η3 =>
            rw [qg] at hc
            simp only [R.bind] at hc
            refine fun ρ3 H3 σ3 e3 r3 er3 w3 => ⟨by rw [w3, wipe_wipe], ρ3, η3, env3, r3, er3, ?_⟩
            cases qt : t env3 η3 with
            | exc c η4 => simp only [qt] at hc; cases hc
            | bad => simp only [qt] at hc; cases hc
            | ok b η4 =>
              simp only [qt] at hc
              refine fun ρ4 H4 e4 r4 => ?_
              have e24 := (ex.trans e3).trans e4
              cases b with
              | false =>
                rw [if_neg (by decide)] at hc
                show ite _ _ _
                rw [if_neg (by decide)]
                exact ⟨ρ4, η4, e2.trans e24, r4, e24.at hq2, hc⟩
              | true =>
                rw [if_pos rfl] at hc
                show ite _ _ _
                rw [if_pos rfl]
                refine ⟨ρ4, η4, env3, r4, er3.mono e4, ?_⟩
                cases qi : i1 env3 η4 with
                | exc c η5 => simp only [qi] at hc; cases hc
                | bad => simp only [qi] at hc; cases hc
                | ok it1 η5 =>
                  simp only [qi] at hc
                  cases qc1 : compN it1 g1 t1 m (wipeE env3 own1) η1.length (sizeI it1 η5 + 1) 0 η5 with
                  | exc c η6 => simp only [qc1] at hc; cases hc
                  | bad => simp only [qc1] at hc; cases hc
                  | ok u6 η6 =>
                    simp only [qc1] at hc
                    refine fun ρ5 H5 J5 e5 r5 ok5 => ?_
                    have e25 := e24.trans e5
                    exact comp_inner ok5 r5 ((er3.mono e4).mono e5) (e25.at hq2) qc1 fun ρ6 H6 e6 r6 => ⟨ρ6, η6, (e2.trans e25).trans e6, r6, e6.at (e25.at hq2), hc⟩
/-! ### f-strings -/
theorem s_fmt {e : Expr} {m : Exp} (h : PE X e (tE X.K a W m)) : PE X (.FormattedValue e (-1) none pos) (tE X.K a W (x1 fmtD m)) := by
  refine (pe_fmt h).imp fun σ H Q ⟨ρ, η, env, rel, er, h⟩ => ?_
  refine tE.bind rel er h fun d η1 ρ1 H1 v e1 r1 er1 p1 h1 => ?_
  unfold fmtD at h1
  split at h1
  · rename_i i
    obtain ⟨c, h1⟩ := if_bad h1
    refine .inr ⟨i, p1.intv, ?_, Out.okv r1 h1 (.str _)⟩
    by_cases h0 : i.natAbs = 0
    · rw [h0]; decide
    · have := (Nat.log2_lt h0).mpr c
      omega
  · rename_i z
    obtain ⟨c, h1⟩ := if_bad h1
    exact .inl ⟨z, p1.strv, c, Out.okv r1 h1 (.str _)⟩
  · exact h1.elim
inductive PJs (X : Cx) (a : Ad) (W : L2.St → XK) : List Expr → List Exp → Prop where
  | nil : PJs X a W [] []
  | cons {e : Expr} {m : Exp} {es : List Expr} {ms : List Exp} (h : PE X e (tE X.K a W m)) (r : PJs X a W es ms) : PJs X a W (e :: es) (m :: ms)
theorem PJs.pj {es : List Expr} {ms : List Exp} (h : PJs X a W es ms) : PJ X es (ms.map (tE X.K a W)) := by
  induction h with
  | nil => exact .nil
  | cons h _ ih => exact .cons h ih
theorem join_read : ∀ {ms : List Exp} {acc : Str} {σ : L2.St} {ρ : List Addr} {η : Hv} {env : Ev} {H : Hp} {Q : VK}, Rel X.K a.C ρ η H → EnvR X.K ρ H env σ → Out X.K a W σ ρ H (joinP ms acc env η) Q → tJs (ms.map (tE X.K a W)) acc σ H fun out H1 => Q (.str out) H1
  | [], acc, σ, ρ, η, env, H, Q, rel, er, h => h ρ H _ (Ext.refl _ _) rel (.str _)
  | m :: ms, acc, σ, ρ, η, env, H, Q, rel, er, h => by
    unfold joinP at h
    refine tE.bind rel er h fun d η1 ρ1 H1 v e1 r1 er1 p1 h1 => ?_
    split at h1
    · rename_i y
      obtain ⟨c, h1⟩ := if_bad h1
      exact ⟨y, p1.strv, c, join_read r1 er1 h1⟩
    · exact h1.elim
theorem s_join {v1 v2 : Expr} {rest : List Expr} {ms : List Exp} (h : PJs X a W (v1 :: v2 :: rest) ms) : PE X (.JoinedStr (v1 :: v2 :: rest) pos) (tE X.K a W (xJoin ms)) :=
  (pe_joined h.pj).imp fun σ H Q ⟨ρ, η, env, rel, er, h⟩ => join_read rel er h
/-! ### slices with a step -/
theorem pick_map {α β : Type} (f : α → β) (xs : List α) (lo hi : Option Int) (c : Int) : pickL (xs.map f) lo hi c = (pickL xs lo hi c).map f := by
  unfold pickL
  rw [List.length_map, List.map_filterMap]
  congr 1
  funext m
  rw [List.getElem?_map]
theorem pick_rel {α β : Type} (R : α → β → Prop) {xs : List α} {ys : List β} (hl : xs.length = ys.length) (h : ∀ (i : Nat) (x : α), xs[i]? = some x → ∃ y, ys[i]? = some y ∧ R x y) {L : List α → List β → Prop} (hn : L [] []) (hc : ∀ x y xs ys, R x y → L xs ys → L (x :: xs) (y :: ys)) (lo hi : Option Int) (c : Int) : L (pickL xs lo hi c) (pickL ys lo hi c) := by
  unfold pickL
  rw [hl]
  generalize List.range _ = ms
  induction ms with
  | nil => exact hn
  | cons m ms ih =>
    rw [List.filterMap_cons, List.filterMap_cons]
    generalize ((Builtin.Slice.sliceAdjust lo hi c (ys.length : Int)).1 + (m : Int) * c).toNat = j
    cases q : xs[j]? with
    | none =>
      have : ys[j]? = none := by
        rw [List.getElem?_eq_none_iff] at q ⊢
        omega
      rw [this]
      exact ih
    | some x =>
      obtain ⟨y, h1, h2⟩ := h j x q
      rw [h1]
      exact hc _ _ _ _ h2 ih
theorem Reps.pick {K : PySem.W.Frag} {ρ : List Addr} {H : Hp} {ds : List D} {vs : List V} (r : Reps K ρ H ds vs) (lo hi : Option Int) (c : Int) : Reps K ρ H (pickL ds lo hi c) (pickL vs lo hi c) :=
  pick_rel (Rep K ρ H) r.length (fun _ _ h => r.get h) .nil (fun _ _ _ _ h t => .cons h t) lo hi c
theorem vals_get : ∀ {vs : List V} {us : List Value} (i : Nat) (x : V), Vals vs us → vs[i]? = some x → ∃ u, us[i]? = some u ∧ RelV x u
  | _, _, _, _, .nil, e => by simp at e
  | _, _, 0, _, .cons h _, e => by simp at e; subst e; exact ⟨_, rfl, h⟩
  | _, _, i + 1, x, .cons _ r, e => by
    obtain ⟨v, h1, h2⟩ := vals_get i x r (by simpa using e)
    exact ⟨v, by simpa using h1, h2⟩
theorem vals_pick {vs : List V} {us : List Value} (r : Vals vs us) (lo hi : Option Int) (c : Int) : Vals (pickL vs lo hi c) (pickL us lo hi c) :=
  pick_rel (fun x u => RelV x u) r.length (fun i x h => vals_get i x r h) .nil (fun _ _ _ _ h t => .cons h t) lo hi c
theorem tup_step {prog : Program} {w : World} {A : Around} {E : Value → Shared → Prop} {s : Shared} {t sl : Addr} {items : Array Value} {vl vu vs : Value} {lo hi : Option Int} {c : Int} {Q : Value → Shared → Prop} (ht : IsTup s.heap t items) (hs : s.heap.IsSliceOf sl vl vu vs) (pl : IsPart vl lo) (pu : IsPart vu hi) (ps : IsPart vs (some c)) (h0 : c ≠ 0) (h1 : c ≠ 1)
    (h : Q (.ref s.heap.objs.size) { s with heap := s.heap.push { cls := .type "tuple", data := .seq (pickL items.toList lo hi c).toArray } }) (hsz : (pickL items.toList lo hi c).length ≤ sizeLine) : wpAny (model prog w) A (getItem (.ref t) (.ref sl)) Q E s := by
  obtain ⟨os, hos, hcs, hds⟩ := id hs
  have hTs : s.TypeIs (.ref sl) "slice" := ⟨os, hos, hcs⟩
  unfold getItem
  try with_reducible refine wpAny_holding ?_
  first | refine wpAny_bind (wpAny_pure ?_) | skip
  refine wpAny_bind (wpAny_sequenceKey ht.typeIs (by decide) ?_)
  refine wpAny_bind (wpAny_callSpecial?_slot (name := Str.ofString "__getitem__") ht.typeIs PyProof.Rows.slot_tuple_getitem (wpAny_call_entry PyProof.Rows.slot_tuple_getitem ht.typeIs entry_tuple_getitem ?_ (args_tuple_getitem _ _)))
  show wpAny _ _ (Builtin.Tuple.tupleItemsOf (.ref t) >>= _) _ _ s
  refine wpAny_bind (tupleItemsOf_ ht ?_)
  refine wpAny_bind (wpAny_typeOf hTs ?_)
  rw [if_pos (by decide)]
  obtain ⟨tk, rfl⟩ : ∃ tk, vs = .int c tk := by cases ps with | int i t => exact ⟨_, rfl⟩
  refine wpAny_bind ?_
  unfold Builtin.Slice.sliceApplied Builtin.Slice.sliceFields
  refine wpAny_bind (wpAny_bind (wpAny_field hos hds (x := vl) rfl (wpAny_bind (wpAny_field hos hds (x := vu) rfl (wpAny_bind (wpAny_field hos hds (x := .int c tk) rfl (wpAny_pure ?_)))))))
  refine wpAny_bind (HT.slicePart_ ps ?_)
  show wpAny _ _ (if (c == 0) = true then _ else _) _ _ s
  rw [if_neg (by simpa using h0)]
  refine wpAny_bind (HT.slicePart_ pl (wpAny_bind (HT.slicePart_ pu (wpAny_bind (wpAny_pure ?_)))))
  show wpAny _ _ (match Builtin.Slice.sliceAdjust lo hi c (items.size : Int) with | (lo, hi) => pure (lo, c, Builtin.Slice.slicePlaces lo hi c)) _ _ s
  obtain ⟨x1, x2, ex⟩ : ∃ x1 x2, Builtin.Slice.sliceAdjust lo hi c (items.size : Int) = (x1, x2) := ⟨_, _, rfl⟩
  rw [ex]
  refine wpAny_pure ?_
  have hno : ¬ ((x1 == 0 && c == 1 && Builtin.Slice.slicePlaces x1 x2 c == items.size) = true) := by
    intro q
    rw [Bool.and_eq_true, Bool.and_eq_true] at q
    exact h1 (eq_of_beq q.1.2)
  show wpAny _ _ (if (x1 == 0 && c == 1 && Builtin.Slice.slicePlaces x1 x2 c == items.size) = true then _ else _) _ _ s
  rw [if_neg hno]
  have e : ((List.range (Builtin.Slice.slicePlaces x1 x2 c)).filterMap fun (m : Nat) => items[(x1 + (m : Int) * c).toNat]?) = pickL items.toList lo hi c := by
    unfold pickL
    rw [Array.length_toList, ex]
    congr 1
    funext m
    rw [Array.getElem?_toList]
  rw [e]
  have hz : sizeOk (.seq (pickL items.toList lo hi c).toArray) := by
    show (pickL items.toList lo hi c).toArray.size ≤ sizeLine
    rw [List.size_toArray]
    exact hsz
  first
    | exact wpAny_bind (m := Builtin.Tuple.tupleExact _) (wpAny_newObj_type (wpAny_pure ⟨_, rfl, wpAny_pure h⟩) hz)
    | exact wpAny_bind (m := Builtin.Tuple.tupleExact _) (wpAny_newObj_type (wpAny_bind (wpAny_pure (wpAny_pure ⟨_, rfl, wpAny_pure h⟩))) hz)
    | exact wpAny_bind (wpAny_bind (m := Builtin.Tuple.tupleExact _) (wpAny_newObj_type (wpAny_pure (wpAny_pure ⟨_, rfl, wpAny_pure h⟩)) hz))
    | exact wpAny_bind (wpAny_bind (m := Builtin.Tuple.tupleExact _) (wpAny_newObj_type (wpAny_pure ⟨_, rfl, wpAny_pure h⟩) hz))
/-- what a slice with a step asks -/
def tStp (K : PySem.W.Frag) (te : TE) (tl th ts : TO) : TE := fun σ H Q => te σ H fun x H1 => tl σ H1 fun lo H2 => th σ H2 fun hi H3 => ts σ H3 fun st H4 =>
  (∃ (q : Addr) (xs : List V) (c : Int), x = .ref q ∧ SqT K H4 q xs ∧ st = some c ∧ c ≠ 0 ∧ c ≠ 1 ∧ (pickL xs lo hi c).length ≤ sizeLine ∧ ∀ z, H4 z = none → Q (.ref z) (upd H4 z (.tup (pickL xs lo hi c)))) ∨
  (∃ (q : Addr) (xs : List V), x = .ref q ∧ SqL K H4 q xs ∧ st = some (-1) ∧ lo = none ∧ hi = none ∧ ∀ z, H4 z = none → Q (.ref z) (upd H4 z (.lst xs.reverse)))
theorem pe_stp {e : Expr} {te : TE} {lo hi : Option Expr} {st : Expr} {tl th ts : TO} {p2 : Pos} (he : PE X e te) (hl : PO X lo tl) (hh : PO X hi th) (hs : PO X (some st) ts) : PE X (.Subscript e (.Slice lo hi (some st) p2) pos) (tStp X.K te tl th ts) := by
  refine ⟨fun pins s σ H Q I h => ?_⟩
  refine Subscript_ (thn (he.run pins s σ H _ I h) fun v s1 ⟨x, H1, I1, r1, q1⟩ => ?_)
  refine wpAny_Slice (thn (hl.run pins s1 σ H1 _ I1 q1) fun vl s2 ⟨l, H2, I2, pl, q2⟩ => thn (hh.run pins s2 σ H2 _ I2 q2) fun vu s3 ⟨u, H3, I3, pu, q3⟩ => thn (hs.run pins s3 σ H3 _ I3 q3) fun vs s4 ⟨c, H4, I4, pc, q4⟩ => ?_)
  have I5 : Inv X pins σ H4 { s4 with heap := s4.heap.push { cls := .type "slice", data := .fields #[vl, vu, vs] } } := I4.kept (t' := s4.toks) fun b ob q => Heap.get?_push_of_some _ q
  show wpAny (model X.prog X.w) X.A (subscriptTail e (.Slice lo hi (some st) p2) v (.ref s4.heap.objs.size)) (EP X pins σ Q) X.xe { s4 with heap := s4.heap.push { cls := .type "slice", data := .fields #[vl, vu, vs] } }
  rcases q4 with ⟨q, xs, i, rfl, hq, rfl, c0, c1, cz, fin⟩ | ⟨q, xs, rfl, hq, rfl, rfl, rfl, fin⟩
  · cases r1
    obtain ⟨its, r, ht, hz⟩ := I5.tuple hq
    have rp := vals_pick r l u i
    refine tail_any (ops := [.ref q, .ref s4.heap.objs.size]) ht.typeIs PyProof.Rows.slot_tuple_getitem.lookup ?_ (by with_unfolding_all rfl)
    refine tup_step ht (Heap.IsSliceOf.new _ vl vu vs) pl pu pc c0 c1 ?_ (by rw [List.toList_toArray, ← rp.length]; exact cz)
    rw [List.toList_toArray]
    exact ⟨.ref _, _, I5.laid (t' := s4.toks) (o := .tup (pickL xs l u i)) (fun b ob q => Heap.get?_push_of_some _ q) (Nat.le_refl _) ⟨cz, _, rp, IsTup.new _ _⟩, rfl, fin _ (I5.hok.fresh (Nat.le_refl _))⟩
  · cases r1
    obtain ⟨its, r, ht, hz⟩ := I5.list hq
    refine tail_any (ops := [.ref q, .ref s4.heap.objs.size]) ht.isList.typeIs PySem.slot_list_getitem.lookup ?_ (by with_unfolding_all rfl)
    refine wpAny_getItem_list_slice ht.isList (Heap.IsSliceOf.new _ vl vu vs) pl pu pc (by decide) ?_ (by rw [List.size_toArray, ← r.length]; exact hz)
    rw [PySem.W.krv_pick]
    exact ⟨.ref _, _, I5.laid (t' := s4.toks) (o := .lst xs.reverse) (fun b ob q => Heap.get?_push_of_some _ q) (Nat.le_refl _) ⟨by rw [List.length_reverse]; exact hz, _, 0, r.reverse, Heap.get?_push_size _ rfl⟩, rfl, fin _ (I5.hok.fresh (Nat.le_refl _))⟩
theorem s_stp {o st : Expr} {lo hi : Option Expr} {p2 : Pos} {m : Exp} {ml mh ms : Opt} (ho : PE X o (tE X.K a W m)) (hl : PO X lo (tO X.K a W ml)) (hh : PO X hi (tO X.K a W mh)) (hs : PO X (some st) (tO X.K a W ms)) : PE X (.Subscript o (.Slice lo hi (some st) p2) pos) (tE X.K a W (xStp m ml mh ms)) := by
  refine (pe_stp ho hl hh hs).imp fun σ H Q ⟨ρ, η, env, rel, er, h⟩ => ?_
  refine tE.bind rel er h fun d η1 ρ1 H1 v e1 r1 er1 p1 h1 => ?_
  refine tO.bind r1 er1 h1 fun i η2 ρ2 H2 e2 r2 er2 h2 => ?_
  refine tO.bind r2 er2 h2 fun j η3 ρ3 H3 e3 r3 er3 h3 => ?_
  refine tO.bind r3 er3 h3 fun c η4 ρ4 H4 e4 r4 er4 h4 => ?_
  have p4 := p1.mono ((e2.trans e3).trans e4)
  have lists : ∀ c', c = some c' → Out X.K a W σ ρ4 H4 (if c' = -1 ∧ i = none ∧ j = none then (match lstOf η4 d with
    | some xs => newL xs.reverse η4
    | none => .bad) else .bad) Q → ∃ (q : Addr) (xs : List V), v = .ref q ∧ SqL X.K H4 q xs ∧ c = some (-1) ∧ i = none ∧ j = none ∧ ∀ z, H4 z = none → Q (.ref z) (upd H4 z (.lst xs.reverse)) := fun c' e h9 => by
    obtain ⟨⟨rfl, rfl, rfl⟩, h9⟩ := if_bad h9
    cases q1 : lstOf η4 d with
    | none => rw [q1] at h9; exact h9.elim
    | some xs =>
      rw [q1] at h9
      obtain ⟨q, vs, rfl, g1, g2⟩ := r4.lstOf q1 p4
      exact ⟨q, vs, rfl, .inl (.inl g1), e, rfl, rfl, fun z nz => Out.newl r4 h9 g2.rev z nz⟩
  cases c with
  | none => cases d <;> exact h4.elim
  | some c =>
    cases d with
    | tup xs =>
      obtain ⟨⟨c0, c1, cz⟩, h4⟩ := if_bad h4
      obtain ⟨q, vs, rfl, g1, g2⟩ := p4.sqT
      have gp := g2.pick i j c
      exact .inl ⟨q, vs, c, rfl, g1, rfl, c0, c1, by rw [← gp.length]; exact cz, fun z nz => Out.newt r4 h4 gp z nz⟩
    | str z => exact h4.elim
    | _ => exact .inr (lists c rfl h4)
end
end En
end

section
set_option maxRecDepth 100000
set_option maxHeartbeats 4000000
/-! FD: tuple(zip(a, b)) of two tuples. -/
namespace En
open PySem PySem.Spec PyProof.Rows L2
section
variable {prog : Program} {w : World} {A : Around} {E : Value → Shared → Prop} {s : Shared}
/-- next while the tuple T that was given out is still there -/
theorem zipH_item {z TI TO T i1 i2 l1 l2 : Addr} {f : Bool} {oT : Obj} {k : Nat} {xs ys : Array Value} {x y : Value} {Q : Option Value → Shared → Prop} (D : ZipApart z TI TO i1 i2 l1 l2) (hz : IsZipHeld s.heap z TI TO T f) (hT : s.heap.get? T = some oT)
    (hTI : IsPair s.heap TI (.ref i1) (.ref i2)) (h1 : s.heap.IsTupleIter i1 l1 k) (h2 : s.heap.IsTupleIter i2 l2 k) (hl1 : s.heap.IsTuple l1 xs) (hl2 : s.heap.IsTuple l2 ys) (hx : xs[k]? = some x) (hy : ys[k]? = some y)
    (hQ : ∀ h', IsZipHeld h' z TI TO T true → h'.IsTupleIter i1 l1 (k + 1) → h'.IsTupleIter i2 l2 (k + 1) → IsPair h' s.heap.objs.size x y → h'.objs.size = s.heap.objs.size + 1 → (∀ c o, c ≠ z → c ≠ i1 → c ≠ i2 → s.heap.get? c = some o → h'.get? c = some o) → Q (some (.ref s.heap.objs.size)) { s with heap := h' }) :
    wpAny (model prog w) A (pyNext (.ref z)) Q E s := by
  have hZ : s.TypeIs (.ref z) "zip" := ⟨_, hz, rfl⟩
  unfold pyNext
  refine wpAny_bind (wpAny_attempt (wpAny_callSpecial?_slot (name := Str.ofString "__next__") hZ F.slot_zip_next (wpAny_call_entry F.slot_zip_next hZ F.entry_zip_next ?_ (F.args_zip_next_1 _))))
  show wpAny _ _ (field (.ref z) 2 >>= _) _ _ _
  refine wpAny_bind (wpAny_field hz rfl (x := .bool false) rfl ?_)
  show wpAny _ _ (field (.ref z) 3 >>= _) _ _ _
  refine wpAny_bind (wpAny_field hz rfl (x := .ref TI) rfl (wpAny_bind (wpAny_seqItems hTI rfl ?_)))
  show wpAny _ _ (Builtin.SmallTypes.ownedTupleIsFree (.ref z) >>= _) _ _ _
  refine wpAny_bind (wpAny_tupleHeld_zip hz hT fun ha za sa => ?_)
  simp only [Bool.false_eq_true, if_false]
  refine wpAny_bind ?_
  rw [← Array.forIn_toList]
  simp only [List.forIn_cons, List.forIn_nil]
  refine wpAny_bind (wpAny_bind (wpAny_holding ?_))
  show wpAny _ _ (Builtin.SmallTypes.nextOf (.ref i1) >>= _) _ _ _
  refine wpAny_bind (RZ.nextOf_tuple_item (s := { s with heap := ha }) (h1.extBut sa.extBut D.i1z) (hl1.extBut sa.extBut D.l1z) hx fun hb ib sb => wpAny_pure (wpAny_pure ?_))
  refine wpAny_bind (wpAny_bind (wpAny_holding ?_))
  show wpAny _ _ (Builtin.SmallTypes.nextOf (.ref i2) >>= _) _ _ _
  refine wpAny_bind (RZ.nextOf_tuple_item (s := { s with heap := hb }) ((h2.extBut sa.extBut D.i2z).extBut sb.extBut D.i12.symm) ((hl2.extBut sa.extBut D.l2z).extBut sb.extBut D.l2i1) hy fun hc ic sc => wpAny_pure (wpAny_pure (wpAny_pure ?_)))
  show wpAny _ _ (newTuple [x, y] >>= _) _ _ _
  refine wpAny_bind (wpAny_newTuple (wpAny_pure ⟨_, rfl, ?_⟩))
  have size : hc.objs.size = s.heap.objs.size := by rw [sc.1, sb.1, sa.1]
  have kp : ∀ c o, c ≠ z → c ≠ i1 → c ≠ i2 → s.heap.get? c = some o → hc.get? c = some o := fun c o c1 c2 c3 e => sc.extBut _ _ c3 (sb.extBut _ _ c2 (sa.extBut _ _ c1 e))
  have zc : IsZipHeld hc z TI TO T true := sc.extBut _ _ D.i2z.symm (sb.extBut _ _ D.i1z.symm za)
  have pc : IsPair (hc.push { cls := .type "tuple", data := .seq #[x, y] }) hc.objs.size x y := Heap.get?_push_size _ rfl
  have fin := hQ (hc.push { cls := .type "tuple", data := .seq #[x, y] }) (Heap.get?_push_of_some _ zc) ((ib.extBut sc.extBut D.i12).at fun o e => Heap.get?_push_of_some _ e) (ic.at fun o e => Heap.get?_push_of_some _ e) (size ▸ pc) (by rw [Heap.size_push, size]) fun c o c1 c2 c3 e => Heap.get?_push_of_some _ (kp c o c1 c2 c3 e)
  rw [← size] at fin
  exact wpAny_pure fin
theorem zipH_end {z TI TO T i1 i2 l1 l2 : Addr} {f : Bool} {oT : Obj} {k : Nat} {xs ys : Array Value} {Q : Option Value → Shared → Prop} (hh : A.handled = none) (D : ZipApart z TI TO i1 i2 l1 l2) (hz : IsZipHeld s.heap z TI TO T f) (hT : s.heap.get? T = some oT)
    (hTI : IsPair s.heap TI (.ref i1) (.ref i2)) (h1 : s.heap.IsTupleIter i1 l1 k) (h2 : s.heap.IsTupleIter i2 l2 k) (hl1 : s.heap.IsTuple l1 xs) (hl2 : s.heap.IsTuple l2 ys) (hend : xs[k]? = none ∨ ys[k]? = none)
    (hQ : ∀ h', (∀ c o, c ≠ z → c ≠ i1 → c ≠ i2 → s.heap.get? c = some o → h'.get? c = some o) → Q none { s with heap := h' }) : wpAny (model prog w) A (pyNext (.ref z)) Q E s := by
  have hZ : s.TypeIs (.ref z) "zip" := ⟨_, hz, rfl⟩
  unfold pyNext
  refine wpAny_bind (wpAny_attempt (wpAny_callSpecial?_slot (name := Str.ofString "__next__") hZ F.slot_zip_next (wpAny_call_entry F.slot_zip_next hZ F.entry_zip_next ?_ (F.args_zip_next_1 _))))
  have stop : ∀ (h' : Heap) (e : Addr), (∀ c o, c ≠ z → c ≠ i1 → c ≠ i2 → s.heap.get? c = some o → h'.get? c = some o) → (∃ o, h'.get? e = some o ∧ o.cls = .type "StopIteration") → wpAny (model prog w) A (isInstance (.ref e) (.type "StopIteration")) (fun b s' => b = true ∧ Q none s') E { s with heap := h' } := fun h' e kp ⟨o, ho, hc⟩ =>
    wpAny_isInstance (T := "StopIteration") (b := true) ⟨o, ho, hc⟩ isSubtype_stop ⟨rfl, hQ _ kp⟩
  show wpAny _ _ (field (.ref z) 2 >>= _) _ _ _
  refine wpAny_bind (wpAny_field hz rfl (x := .bool false) rfl ?_)
  show wpAny _ _ (field (.ref z) 3 >>= _) _ _ _
  refine wpAny_bind (wpAny_field hz rfl (x := .ref TI) rfl (wpAny_bind (wpAny_seqItems hTI rfl ?_)))
  show wpAny _ _ (Builtin.SmallTypes.ownedTupleIsFree (.ref z) >>= _) _ _ _
  refine wpAny_bind (wpAny_tupleHeld_zip hz hT fun ha za sa => ?_)
  simp only [Bool.false_eq_true, if_false]
  refine wpAny_bind ?_
  rw [← Array.forIn_toList]
  simp only [List.forIn_cons, List.forIn_nil]
  refine wpAny_bind (wpAny_bind (wpAny_holding ?_))
  show wpAny _ _ (Builtin.SmallTypes.nextOf (.ref i1) >>= _) _ _ _
  cases hx : xs[k]? with
  | none =>
    refine wpAny_bind (RZ.nextOf_tuple_end (s := { s with heap := ha }) hh (h1.extBut sa.extBut D.i1z) (hl1.extBut sa.extBut D.l1z) hx fun hb e sb ⟨o, ho, hc⟩ => ?_)
    refine wpAny_bind (wpAny_isInstance (T := "StopIteration") (b := true) ⟨o, ho, hc⟩ isSubtype_stop ?_)
    exact wpAny_pure (hQ _ fun c u c1 c2 c3 q => sb _ _ c2 (sa.extBut _ _ c1 q))
  | some x =>
    have hy : ys[k]? = none := by
      rcases hend with q | q
      · rw [hx] at q; cases q
      · exact q
    refine wpAny_bind (RZ.nextOf_tuple_item (s := { s with heap := ha }) (h1.extBut sa.extBut D.i1z) (hl1.extBut sa.extBut D.l1z) hx fun hb ib sb => wpAny_pure (wpAny_pure ?_))
    refine wpAny_bind (wpAny_bind (wpAny_holding ?_))
    show wpAny _ _ (Builtin.SmallTypes.nextOf (.ref i2) >>= _) _ _ _
    refine wpAny_bind (RZ.nextOf_tuple_end (s := { s with heap := hb }) hh ((h2.extBut sa.extBut D.i2z).extBut sb.extBut D.i12.symm) ((hl2.extBut sa.extBut D.l2z).extBut sb.extBut D.l2i1) hy fun hc e sc ⟨o, ho, hcl⟩ => ?_)
    refine wpAny_bind (wpAny_isInstance (T := "StopIteration") (b := true) ⟨o, ho, hcl⟩ isSubtype_stop ?_)
    exact wpAny_pure (hQ _ fun c u c1 c2 c3 q => sc _ _ c3 (sb.extBut _ _ c2 (sa.extBut _ _ c1 q)))
theorem ne_lim {T b : Addr} {lim : Nat} (h : lim ≤ T) (h2 : b < lim) : T ≠ b := fun e => by
  subst e
  exact absurd h2 (Nat.not_lt.mpr h)
/-- the zip, ahead of its turn i -/
def Zst (h : Heap) (z TI TO i1 i2 l1 l2 : Addr) (xs ys : Array Value) (lim i : Nat) : Prop :=
  ((i = 0 ∧ IsZip h z TI TO .none ∧ IsPair h TO .none .none) ∨ ∃ (T : Addr) (f : Bool) (oT : Obj), IsZipHeld h z TI TO T f ∧ h.get? T = some oT ∧ lim ≤ T) ∧ IsPair h TI (.ref i1) (.ref i2) ∧ h.IsTupleIter i1 l1 i ∧ h.IsTupleIter i2 l2 i ∧ h.IsTuple l1 xs ∧ h.IsTuple l2 ys
/-- the pairs so far -/
def Prs (h : Heap) (xs ys : Array Value) (lim i : Nat) (acc : Array Value) : Prop := acc.size = i ∧ ∀ (j : Nat) (v : Value), acc[j]? = some v → ∃ T x y, v = .ref T ∧ lim ≤ T ∧ IsPair h T x y ∧ xs[j]? = some x ∧ ys[j]? = some y
theorem Zst.keep {h h' : Heap} {z TI TO i1 i2 l1 l2 : Addr} {xs ys : Array Value} {lim i : Nat} (st : Zst h z TI TO i1 i2 l1 l2 xs ys lim i) (k : ∀ b o, h.get? b = some o → (b < lim → b = z ∨ b = TI ∨ b = TO ∨ b = i1 ∨ b = i2 ∨ b = l1 ∨ b = l2) → h'.get? b = some o) (hl : l1 < lim ∧ l2 < lim) : Zst h' z TI TO i1 i2 l1 l2 xs ys lim i := by
  obtain ⟨a, b, c, d, ⟨o1, e1, r1⟩, ⟨o2, e2, r2⟩⟩ := st
  refine ⟨?_, k _ _ b (by simp), c.at fun o e => k _ _ e (by simp), d.at fun o e => k _ _ e (by simp), ⟨o1, k _ _ e1 (by simp), r1⟩, ⟨o2, k _ _ e2 (by simp), r2⟩⟩
  rcases a with ⟨a1, a2, a3⟩ | ⟨T, f, oT, a1, a2, a3⟩
  · exact .inl ⟨a1, k _ _ a2 (by simp), k _ _ a3 (by simp)⟩
  · exact .inr ⟨T, f, oT, k _ _ a1 (by simp), k _ _ a2 (fun z => absurd z (Nat.not_lt.mpr a3)), a3⟩
theorem zip_loop {R : Result → Shared → Prop} {z TI TO i1 i2 l1 l2 S : Addr} {xs ys : Array Value} {lim : Nat} (hh : A.in1.handled = none) (D : ZipApart z TI TO i1 i2 l1 l2) (res : Value) (hlim : z < lim ∧ TI < lim ∧ TO < lim ∧ i1 < lim ∧ i2 < lim ∧ l1 < lim ∧ l2 < lim ∧ S < lim)
    (hS : S ≠ z ∧ S ≠ TI ∧ S ≠ TO ∧ S ≠ i1 ∧ S ≠ i2 ∧ S ≠ l1 ∧ S ≠ l2) (hsz : xs.size ≤ 1000) : ∀ (k i : Nat) (s : Shared) (acc : Array Value) (c : Nat), min xs.size ys.size - i = k → i ≤ min xs.size ys.size → lim ≤ s.heap.objs.size → Zst s.heap z TI TO i1 i2 l1 l2 xs ys lim i → Prs s.heap xs ys lim i acc →
    s.heap.get? S = some { cls := .type "list", dict := none, data := .seq acc c, slots := #[] } →
    (∀ h' acc' c', (∀ b o, b < lim → b ≠ S → b ≠ z → b ≠ TO → b ≠ i1 → b ≠ i2 → s.heap.get? b = some o → h'.get? b = some o) → Prs h' xs ys lim (min xs.size ys.size) acc' → h'.get? S = some { cls := .type "list", dict := none, data := .seq acc' c', slots := #[] } → R (.ok (.ret res)) { s with heap := h' }) →
    codeAny (model prog w) A (.builtin "list.extend.loop" ⟨[.ref S, .ref z, res], []⟩) R s
  | 0, i, s, acc, c, hk, hi, hz, st, hp, hl, hR => by
    obtain ⟨hS1, hS2, hS3, hS4, hS5, hS6, hS7⟩ := hS
    have hend : xs[i]? = none ∨ ys[i]? = none := by
      by_cases q : xs.size ≤ i
      · exact .inl (Array.getElem?_eq_none q)
      · exact .inr (Array.getElem?_eq_none (by omega))
    refine codeAny_builtin F.entry_extend_loop ?_
    rw [Around.under_plainId F.plain_extend_loop _]
    show wpAny _ A.in1 (pyNext (.ref z) >>= _) _ _ s
    have fin : ∀ h', (∀ c o, c ≠ z → c ≠ TO → c ≠ i1 → c ≠ i2 → s.heap.get? c = some o → h'.get? c = some o) → R (.ok (.ret res)) { s with heap := h' } := fun h' kp => by
      have em : i = min xs.size ys.size := by omega
      refine hR h' acc c (fun b o _ _ b1 b2 b3 b4 e => kp b o b1 b2 b3 b4 e) ⟨hp.1.trans em, fun j v e => ?_⟩ (kp S _ hS1 hS3 hS4 hS5 hl)
      obtain ⟨T, x, y, e1, e2, e3, e4⟩ := hp.2 j v e
      obtain ⟨L1, L2, L3, L4, L5, L6, L7, L8⟩ := hlim
      exact ⟨T, x, y, e1, e2, kp T _ (ne_lim e2 L1) (ne_lim e2 L3) (ne_lim e2 L4) (ne_lim e2 L5) e3, e4⟩
    obtain ⟨a, b, c1, d, e1, e2⟩ := st
    rcases a with ⟨a1, a2, a3⟩ | ⟨T, f, oT, a1, a2, a3⟩
    · exact wpAny_bind (RZ.pyNext_zipT_end hh D a2 b a3 c1 d e1 e2 hend fun h' kp => wpAny_pure (fin h' kp))
    · exact wpAny_bind (zipH_end hh D a1 a2 b c1 d e1 e2 hend fun h' kp => wpAny_pure (fin h' (fun c o c1 _ c3 c4 => kp c o c1 c3 c4)))
  | k + 1, i, s, acc, c, hk, hi, hz, st, hp, hl, hR => by
    have hlt : i < min xs.size ys.size := by omega
    have hk1 : min xs.size ys.size - (i + 1) = k := by omega
    have hi1 : i ≤ sizeLine := by rw [sizeLine_eq]; omega
    obtain ⟨x, hx⟩ : ∃ x, xs[i]? = some x := ⟨_, Array.getElem?_eq_getElem (by omega)⟩
    obtain ⟨y, hy⟩ : ∃ y, ys[i]? = some y := ⟨_, Array.getElem?_eq_getElem (by omega)⟩
    refine codeAny_builtin F.entry_extend_loop ?_
    rw [Around.under_plainId F.plain_extend_loop _]
    show wpAny _ A.in1 (pyNext (.ref z) >>= _) _ _ s
    -- behind the next
    have step : ∀ h' : Heap, ((∃ (T : Addr) (f : Bool) (oT : Obj), IsZipHeld h' z TI TO T f ∧ h'.get? T = some oT ∧ lim ≤ T) ∧ h'.IsTupleIter i1 l1 (i + 1) ∧ h'.IsTupleIter i2 l2 (i + 1)) → IsPair h' s.heap.objs.size x y → h'.objs.size = s.heap.objs.size + 1 →
        (∀ c o, c ≠ z → c ≠ TO → c ≠ i1 → c ≠ i2 → s.heap.get? c = some o → h'.get? c = some o) → wpAny (model prog w) A.in1 (updateSeq S (·.push (.ref s.heap.objs.size)) >>= fun _ => again (.builtin "list.extend.loop" ⟨[.ref S, .ref z, res], []⟩)) (fun fin s' => match fin with
          | .done f => R (.ok f) s'
          | .again c' => Code.quiet c' = true ∧ codeAny (model prog w) A c' R s') (fun e s' => R (.error e) s') { s with heap := h' } := fun h' zs pr sz kp => by
      obtain ⟨hS1, hS2, hS3, hS4, hS5, hS6, hS7⟩ := hS
      obtain ⟨L1, L2, L3, L4, L5, L6, L7, L8⟩ := hlim
      have hS' := kp S _ hS1 hS3 hS4 hS5 hl
      have oth : ∀ b o, b ≠ S → h'.get? b = some o → (h'.update S (Obj.mapSeq (·.push (.ref s.heap.objs.size)))).get? b = some o := fun b o hb e => (Heap.get?_update_other _ _ (fun q : S = b => hb q.symm)).trans e
      obtain ⟨⟨T, f, oT, z1, z2, z3⟩, t1, t2⟩ := zs
      obtain ⟨a, b, c1, d, ⟨u1, v1, w1⟩, ⟨u2, v2, w2⟩⟩ := st
      refine wpAny_bind ?_
      refine wpAny_updateSeq hS' rfl (wpAny_pure ⟨plainId_quiet F.plain_extend_loop _, zip_loop hh D res ⟨L1, L2, L3, L4, L5, L6, L7, L8⟩ ⟨hS1, hS2, hS3, hS4, hS5, hS6, hS7⟩ hsz k (i + 1) _ (acc.push (.ref s.heap.objs.size)) _ hk1 hlt ?_ ?_ ?_ (Heap.get?_update_self _ hS' rfl) fun h2 acc2 c2 k2 p2 l2 => ?_⟩) (by rw [hp.1]; exact hi1) (by show (acc.push _).size ≤ sizeLine + 1; rw [Array.size_push, hp.1]; exact Nat.succ_le_succ hi1)
      · show lim ≤ (h'.update S _).objs.size
        rw [Heap.size_update, sz]
        omega
      · refine ⟨.inr ⟨T, f, oT, oth _ _ hS1.symm z1, oth _ _ (ne_lim z3 L8) z2, z3⟩, oth _ _ hS2.symm (kp _ _ D.TIz D.TITO D.TIi1 D.TIi2 b), t1.at fun o e => oth _ _ hS4.symm e, t2.at fun o e => oth _ _ hS5.symm e, ⟨u1, oth _ _ hS6.symm (kp _ _ D.l1z D.l1TO D.l1i1 D.l1i2 v1), w1⟩, ⟨u2, oth _ _ hS7.symm (kp _ _ D.l2z D.l2TO D.l2i1 D.l2i2 v2), w2⟩⟩
      · refine ⟨by rw [Array.size_push, hp.1], fun j v e => ?_⟩
        by_cases hj : j < acc.size
        · rw [Array.getElem?_push_lt hj] at e
          obtain ⟨T2, x2, y2, e1, e2, e3, e4⟩ := hp.2 j v (by rw [Array.getElem?_eq_getElem hj]; exact e)
          exact ⟨T2, x2, y2, e1, e2, oth _ _ (ne_lim e2 L8) (kp T2 _ (ne_lim e2 L1) (ne_lim e2 L3) (ne_lim e2 L4) (ne_lim e2 L5) e3), e4⟩
        · by_cases hj2 : j = acc.size
          · subst hj2
            rw [Array.getElem?_push_size] at e
            cases e
            exact ⟨_, x, y, rfl, hz, oth _ _ (ne_lim hz L8) pr, hp.1 ▸ hx, hp.1 ▸ hy⟩
          · rw [Array.getElem?_eq_none (by rw [Array.size_push]; omega)] at e
            cases e
      · exact hR h2 acc2 c2 (fun b o b0 b1 b2 b3 b4 b5 e => k2 b o b0 b1 b2 b3 b4 b5 (oth b o b1 (kp b o b2 b3 b4 b5 e))) p2 l2
    obtain ⟨a, b, c1, d, e1, e2⟩ := st
    rcases a with ⟨a1, a2, a3⟩ | ⟨T, f, oT, a1, a2, a3⟩
    · refine wpAny_bind (RZ.pyNext_zipT_item D a2 b a3 c1 d e1 e2 hx hy fun h' q1 q2 q3 q4 q5 q6 kp => ?_)
      exact step h' ⟨⟨_, false, _, q1, q5, hz⟩, q3, q4⟩ q5 q6 kp
    · refine wpAny_bind (zipH_item D a1 a2 b c1 d e1 e2 hx hy fun h' q1 q3 q4 q5 q6 kp => ?_)
      have hT : T < s.heap.objs.size := Heap.lt_size a2
      refine step h' ⟨⟨T, true, oT, q1, kp T _ ?_ ?_ ?_ a2, a3⟩, q3, q4⟩ q5 q6 fun c o c1 _ c3 c4 => kp c o c1 c3 c4
      · exact ne_lim a3 hlim.1
      · exact ne_lim a3 hlim.2.2.2.1
      · exact ne_lim a3 hlim.2.2.2.2.1
theorem zip_no_len : typeLookup (.type "zip") "__len__" = pure none := am_miss_of_fast (by decide +kernel)
theorem zip_no_hint : typeLookup (.type "zip") "__length_hint__" = pure none := am_miss_of_fast (by decide +kernel)
/-- what a zip that wasn't drawn from gives, all of it -/
theorem zip_collect {Q : List Value → Shared → Prop} {z TI TO i1 i2 l1 l2 : Addr} {xs ys : Array Value} (hh : A.in1.handled = none) (D : ZipApart z TI TO i1 i2 l1 l2) (hz : IsZip s.heap z TI TO .none) (hTI : IsPair s.heap TI (.ref i1) (.ref i2)) (hTO : IsPair s.heap TO .none .none)
    (h1 : s.heap.IsTupleIter i1 l1 0) (h2 : s.heap.IsTupleIter i2 l2 0) (hl1 : s.heap.IsTuple l1 xs) (hl2 : s.heap.IsTuple l2 ys) (hsz : xs.size ≤ 1000)
    (hQ : ∀ h' acc, (∀ b o, b < s.heap.objs.size → b ≠ z → b ≠ TO → b ≠ i1 → b ≠ i2 → s.heap.get? b = some o → h'.get? b = some o) → Prs h' xs ys (s.heap.objs.size + 1) (min xs.size ys.size) acc → s.heap.objs.size < h'.objs.size → Q acc.toList { s with heap := h' }) :
    wpAny (model prog w) A (collect (.ref z)) Q E s := by
  have zl : z < s.heap.objs.size := Heap.lt_size hz
  have al : TI < s.heap.objs.size := Heap.lt_size hTI
  have bl : TO < s.heap.objs.size := Heap.lt_size hTO
  have il : i1 < s.heap.objs.size := let ⟨_, e, _⟩ := h1; Heap.lt_size e
  have jl : i2 < s.heap.objs.size := let ⟨_, e, _⟩ := h2; Heap.lt_size e
  have ul : l1 < s.heap.objs.size := let ⟨_, e, _⟩ := hl1; Heap.lt_size e
  have vl : l2 < s.heap.objs.size := let ⟨_, e, _⟩ := hl2; Heap.lt_size e
  have up : ∀ {b : Addr}, b < s.heap.objs.size → b < s.heap.objs.size + 1 := fun h => Nat.lt_succ_of_lt h
  unfold collect
  refine wpAny_bind (wpAny_runValue (codeAny_builtin F.entry_proto_collect ?_))
  rw [Around.under_plainId F.plain_proto_collect _]
  show wpAny _ A.in1 (newList [] >>= fun l => again (.builtin "list.__iadd__" ⟨[l, .ref z], []⟩)) _ _ s
  refine wpAny_bind (wpAny_newObj_type (wpAny_pure ⟨plainId_quiet F.plain_list_iadd _, codeAny_builtin F.entry_list_iadd ?_⟩))
  rw [Around.under_plainId F.plain_list_iadd _]
  obtain ⟨S, eS⟩ : ∃ S, S = s.heap.objs.size := ⟨_, rfl⟩
  obtain ⟨ha, eh⟩ : ∃ ha, ha = s.heap.push { cls := .type "list", data := .seq ([] : List Value).toArray } := ⟨_, rfl⟩
  have ka : ∀ b o, s.heap.get? b = some o → ha.get? b = some o := fun b o e => by rw [eh]; exact Heap.get?_push_of_some _ e
  have gS : ha.get? S = some { cls := .type "list", data := .seq ([] : List Value).toArray } := by rw [eh, eS]; exact Heap.get?_push_size _ rfl
  have sa : ha.objs.size = s.heap.objs.size + 1 := by rw [eh, Heap.size_push]
  rw [← eS, ← eh]
  show wpAny _ A.in1 (Builtin.List.listExtendWith (.ref S) (.ref z) (.ref S)) _ _ _
  have hZ : ({ s with heap := ha } : Shared).TypeIs (.ref z) "zip" := ⟨_, ka _ _ hz, rfl⟩
  unfold Builtin.List.listExtendWith
  refine wpAny_bind (wpAny_typeOf hZ ?_)
  have n1 : Builtin.List.listSameRef (.ref S) (.ref z) = false := by
    have : S ≠ z := by rw [eS]; exact Nat.ne_of_gt zl
    simp [Builtin.List.listSameRef, this]
  have n2 : (Value.type "zip" == Value.type "list") = false := by decide +kernel
  have n3 : (Value.type "zip" == Value.type "tuple") = false := by decide +kernel
  simp only [n1, n2, n3, Bool.or_false, Bool.false_eq_true, if_false]
  refine wpAny_bind (wpAny_pyIter_zip (s := { s with heap := ha }) (ka _ _ hz) (wpAny_bind (wpAny_holding ?_)))
  unfold Builtin.List.listLengthHint
  refine wpAny_bind (wpAny_specialOf hZ zip_no_len ?_)
  show wpAny _ A.in1 (specialOf (Value.ref z) (Str.ofString "__length_hint__") >>= _) _ _ _
  refine wpAny_bind (wpAny_specialOf hZ zip_no_hint (wpAny_pure ?_))
  show wpAny _ A.in1 (rule "list.extend.makes-room" >>= fun _ => Builtin.List.listTouch (.ref S) >>= fun _ => again (.builtin "list.extend.loop" ⟨[.ref S, .ref z, .ref S], []⟩)) _ _ _
  refine wpAny_bind (wpAny_rule (wpAny_bind ?_))
  show wpAny _ A.in1 (updateSeq S (·.push .none) >>= fun _ => updateSeq S (·.pop)) _ _ _
  refine wpAny_bind (wpAny_updateSeq gS rfl ?_)
  have gS2 := Heap.get?_update_self (Obj.mapSeq (·.push Value.none)) gS rfl
  refine wpAny_updateSeq gS2 rfl ?_
  have gS3 := Heap.get?_update_self (Obj.mapSeq (·.pop)) gS2 rfl
  obtain ⟨hb, eb⟩ : ∃ hb, hb = (ha.update S (Obj.mapSeq (·.push Value.none))).update S (Obj.mapSeq (·.pop)) := ⟨_, rfl⟩
  have kb : ∀ b o, b ≠ S → s.heap.get? b = some o → hb.get? b = some o := fun b o n e => by
    rw [eb]
    exact (Heap.get?_update_other _ _ (Ne.symm n)).trans ((Heap.get?_update_other _ _ (Ne.symm n)).trans (ka b o e))
  have lt : ∀ {b : Addr}, b < s.heap.objs.size → b ≠ S := fun h => by rw [eS]; exact Nat.ne_of_lt h
  have sb : hb.objs.size = s.heap.objs.size + 1 := by rw [eb, Heap.size_update, Heap.size_update, sa]
  rw [← eb] at gS3 ⊢
  refine wpAny_pure ⟨plainId_quiet F.plain_extend_loop _, zip_loop (A := A) (S := S) (lim := s.heap.objs.size + 1) hh D (.ref S) ⟨up zl, up al, up bl, up il, up jl, up ul, up vl, by rw [eS]; exact Nat.lt_succ_self _⟩ ⟨(lt zl).symm, (lt al).symm, (lt bl).symm, (lt il).symm, (lt jl).symm, (lt ul).symm, (lt vl).symm⟩ hsz (min xs.size ys.size) 0 { s with heap := hb } #[] _ (Nat.sub_zero _) (Nat.zero_le _) (Nat.le_of_eq sb.symm)
    ⟨.inl ⟨rfl, kb _ _ (lt zl) hz, kb _ _ (lt bl) hTO⟩, kb _ _ (lt al) hTI, h1.at fun o e => kb _ _ (lt il) e, h2.at fun o e => kb _ _ (lt jl) e, let ⟨o, e, r⟩ := hl1; ⟨o, kb _ _ (lt ul) e, r⟩, let ⟨o, e, r⟩ := hl2; ⟨o, kb _ _ (lt vl) e, r⟩⟩ ⟨rfl, fun j v e => by simp at e⟩ gS3 fun h' acc' c' k' p' l' => ?_⟩
  show wpAny _ A (load S >>= _) _ _ _
  exact wpAny_bind (wpAny_load l' (wpAny_pure (hQ h' acc' (fun b o b0 b2 b3 b4 b5 e => k' b o (up b0) (lt b0) b2 b3 b4 b5 (kb b o (lt b0) e)) p' (by rw [← eS]; exact Heap.lt_size l'))))
theorem code_tupZip {Q₁ : Value → Shared → Prop} {z TI TO i1 i2 l1 l2 : Addr} {xs ys : Array Value} (hh : A.handled = none) (D : ZipApart z TI TO i1 i2 l1 l2) (hz : IsZip s.heap z TI TO .none) (hTI : IsPair s.heap TI (.ref i1) (.ref i2)) (hTO : IsPair s.heap TO .none .none)
    (h1 : s.heap.IsTupleIter i1 l1 0) (h2 : s.heap.IsTupleIter i2 l2 0) (hl1 : s.heap.IsTuple l1 xs) (hl2 : s.heap.IsTuple l2 ys) (hsz : xs.size ≤ 1000)
    (hQ : ∀ h' acc, (∀ b o, b < s.heap.objs.size → b ≠ z → b ≠ TO → b ≠ i1 → b ≠ i2 → s.heap.get? b = some o → h'.get? b = some o) → Prs h' xs ys (s.heap.objs.size + 1) (min xs.size ys.size) acc → s.heap.objs.size < h'.objs.size → Q₁ (.ref h'.objs.size) { s with heap := h'.push { cls := .type "tuple", data := .seq acc } }) :
    codeAny (model prog w) A (.call (.builtin "tuple.__new__") ⟨[.type "tuple", .ref z], []⟩) (wants Q₁ E) s := by
  refine codeAny_of_tree ?_
  show wpAny _ A.in1 (do checkBuiltinCall "tuple.__new__" ⟨[.type "tuple", .ref z], []⟩; again (.builtin "tuple.__new__" ⟨[.type "tuple", .ref z], []⟩)) _ _ s
  refine wpAny_bind (wpAny_of_eq (F.newCall_tuple_1 _) (wpAny_pure ⟨plainId_quiet F.plain_tuple_new _, codeAny_builtin F.entry_tuple_new ?_⟩))
  rw [Around.under_plainId F.plain_tuple_new _]
  have hsub := sub_tuple_self
  have hinit := init_tuple_lookup
  have hmh := madeHere_tuple
  have hTy : s.TypeIs (.ref z) "zip" := ⟨_, hz, rfl⟩
  have hh1 : A.in1.in1.handled = none := hh
  wp_walk using wpAny_typeOf hTy, zip_collect (A := A.in1) hh1 D hz hTI hTO h1 h2 hl1 hl2 hsz
  intro h' acc hk hp hw
  show wpAny _ _ (Builtin.Tuple.tupleExact acc.toList.toArray >>= fun v => ret v) _ _ _
  unfold Builtin.Tuple.tupleExact
  refine wpAny_bind (wpAny_newObj_type ?_ (by show acc.toList.toArray.size ≤ sizeLine; simp only [Array.toArray_toList]; rw [hp.1, sizeLine_eq]; omega))
  refine wpAny_pure ?_
  have e : acc.toList.toArray = acc := by simp
  rw [e]
  exact hQ h' acc hk hp hw
theorem call_tupZip {Q : Value → Shared → Prop} {z TI TO i1 i2 l1 l2 : Addr} {xs ys : Array Value} (hh : A.handled = none) (D : ZipApart z TI TO i1 i2 l1 l2) (hz : IsZip s.heap z TI TO .none) (hTI : IsPair s.heap TI (.ref i1) (.ref i2)) (hTO : IsPair s.heap TO .none .none)
    (h1 : s.heap.IsTupleIter i1 l1 0) (h2 : s.heap.IsTupleIter i2 l2 0) (hl1 : s.heap.IsTuple l1 xs) (hl2 : s.heap.IsTuple l2 ys) (hsz : xs.size ≤ 1000)
    (hQ : ∀ h' acc, (∀ b o, b < s.heap.objs.size → b ≠ z → b ≠ TO → b ≠ i1 → b ≠ i2 → s.heap.get? b = some o → h'.get? b = some o) → Prs h' xs ys (s.heap.objs.size + 1) (min xs.size ys.size) acc → s.heap.objs.size < h'.objs.size → Q (.ref h'.objs.size) { s with heap := h'.push { cls := .type "tuple", data := .seq acc } }) :
    wpAny (model prog w) A (call (.type "tuple") [.ref z]) Q E s := by
  refine callType_codes (Q₁ := fun obj s₁ => s₁.TypeIs obj "tuple" ∧ Q obj s₁) F.called_tuple (F.typeCall_tuple_1 _) F.entry_object_init (code_tupZip (A := A.in1) hh D hz hTI hTO h1 h2 hl1 hl2 hsz fun h' acc hk hp hw => ⟨⟨_, Heap.get?_push_size _ rfl, rfl⟩, hQ h' acc hk hp hw⟩) fun obj sa ha => ?_
  exact ⟨ha.1, F.args_object_init_2 obj _, object_init_meets F.called_tuple.init.lookup F.called_tuple.made (by decide) prog w A.in1 _ sa ⟨ha.1, rfl, ha.2⟩⟩
end
end En
end

section
set_option maxRecDepth 100000
set_option maxHeartbeats 4000000
/-! FE: tuple(zip(a, b)) as an expression. -/
namespace En
open PySem PySem.Spec PyProof.Rows L2
theorem Rel.kept {K : PySem.W.Frag} {CA : CAt} {ρ : List Addr} {η : Hv} {H H' : Hp} (r : Rel K CA ρ η H) (k : ∀ b o, H b = some o → H' b = some o) : Rel K CA ρ η H' :=
  r.ext ⟨List.prefix_refl _, fun b o e _ _ => k b o e, fun _ h n => absurd h n⟩ (fun b hb => by
    obtain ⟨u, e⟩ := r.tracked hb
    rw [e, k b u e]) (r.tabs.ext k)
theorem Ext.kept {ρ : List Addr} {H H' : Hp} (k : ∀ b o, H b = some o → H' b = some o) : Ext ρ H ρ H' := ⟨List.prefix_refl _, fun b o e _ _ => k b o e, fun _ h n => absurd h n⟩
section
variable {X : Cx}
/-- several new tuples at once -/
theorem laidN {pins : List (Addr × Obj)} {σ : L2.St} {H H' : Hp} {s : Shared} {h' : Heap} {t' : Nat} (I : Inv X pins σ H s) (k : ∀ b u, s.heap.get? b = some u → h'.get? b = some u) (old : ∀ b, b < s.heap.objs.size → H' b = H b)
    (new : ∀ b o, s.heap.objs.size ≤ b → H' b = some o → ∃ xs, o = .tup xs ∧ xs.length ≤ sizeLine ∧ ∃ its, Vals xs its ∧ IsTup h' b its.toArray) : Inv X pins σ H' { s with heap := h', toks := t' } := by
  have same : ∀ b o, H b = some o → H' b = some o := fun b o e => by rw [old b (I.hok.lt e)]; exact e
  refine I.un ⟨fun b u q _ _ _ => k b u q, fun b u q _ _ _ => ⟨u.slots, k b u q⟩, fun b u q n _ => by rw [old b (Heap.lt_size q)]; exact n, fun b u q _ => ⟨u, k b u q⟩, fun b xs q => same b _ q, fun b u xs q => same b _ q, fun b ps q => ⟨#[], by rw [same b _ q]; simp⟩⟩ fun b o e => ?_
  by_cases hb : b < s.heap.objs.size
  · rw [old b hb] at e
    exact (I.hok b o e).stay (fun c v _ q => k c v q) (fun c q => same c _ q) fun c xs q => same c _ q
  · obtain ⟨xs, rfl, h1, its, h2, h3⟩ := new b o (Nat.not_lt.mp hb) e
    exact ⟨h1, its, h2, h3⟩
/-- what tuple(zip(a, b)) asks -/
def tTupZip (K : PySem.W.Frag) (ta : TA) : TE := fun σ H Q => ta σ H fun vs H1 => ∃ (a b : Addr) (xs ys : List V), vs = [.ref a, .ref b] ∧ SqT K H1 a xs ∧ SqT K H1 b ys ∧ xs.length ≤ 1000 ∧
  ∀ (H2 : Hp) (q : Addr) (ts : List Addr), (∀ c o, H1 c = some o → H2 c = some o) → H1 q = none → H2 q = some (.tup (ts.map V.ref)) → ts.length = min xs.length ys.length →
    (∀ (j : Nat) (t : Addr), ts[j]? = some t → H1 t = none ∧ ∃ x y, xs[j]? = some x ∧ ys[j]? = some y ∧ H2 t = some (.tup [x, y])) → Q (.ref q) H2
theorem refs_of {acc : Array Value} {P : Nat → Addr → Prop} (h : ∀ (j : Nat) (v : Value), acc[j]? = some v → ∃ T, v = .ref T ∧ P j T) : ∃ ts : List Addr, acc.toList = ts.map Value.ref ∧ ∀ (j : Nat) (t : Addr), ts[j]? = some t → P j t := by
  have main : ∀ (l : List Value) (P : Nat → Addr → Prop), (∀ (j : Nat) (v : Value), l[j]? = some v → ∃ T, v = .ref T ∧ P j T) → ∃ ts : List Addr, l = ts.map Value.ref ∧ ∀ (j : Nat) (t : Addr), ts[j]? = some t → P j t := fun l => by
    induction l with
    | nil => exact fun P h => ⟨[], rfl, fun j t e => by simp at e⟩
    | cons v l ih =>
      intro P h
      obtain ⟨T, rfl, hp⟩ := h 0 v rfl
      obtain ⟨ts, e1, e2⟩ := ih (fun j => P (j + 1)) (fun j v e => h (j + 1) v (by simpa using e))
      refine ⟨T :: ts, by rw [e1]; rfl, fun j t e => ?_⟩
      cases j with
      | zero => simp at e; subst e; exact hp
      | succ j => exact e2 j t (by simpa using e)
  exact main acc.toList P fun j v e => h j v (by rw [← Array.getElem?_toList]; exact e)
theorem vals_refs : ∀ ts : List Addr, Vals (ts.map V.ref) (ts.map Value.ref)
  | [] => .nil
  | t :: r => .cons rfl (vals_refs r)
open Classical in
theorem pe_tupZip {e1 e2 : Expr} {ta : TA} {p p2 q pos : Pos} (hc : X.calm = true) (hg : Gl X "tuple") (hm : X.mg "tuple" = none) (hg2 : Gl X "zip") (hm2 : X.mg "zip" = none) (ha : PA X [e1, e2] ta)
    (hs : starEach [e1, e2] X.env = (false, eval e1 X.env) :: starEach [e2] X.env) (hpl : (backTo q (starEach [e2] X.env)).any (·.1) = false) : PE X (.Call (.Name "tuple" p) [.Call (.Name "zip" p2) [e1, e2] [] q] [] pos) (tTupZip X.K ta) := by
  refine ⟨fun pins s σ H Q I h => ?_⟩
  have na : starEach [Expr.Call (.Name "zip" p2) [e1, e2] [] q] X.env = (false, eval (Expr.Call (.Name "zip" p2) [e1, e2] [] q) X.env) :: starEach [] X.env := by rfl
  refine Call_ (ld_blt I hg hm boot_tuple (PyProof.Rows.callWith_type1 (args_cons ?_ na) na))
  refine Call_ (ld_blt I hg2 hm2 PyProof.Rows.boot_zip (PyProof.Rows.callWith_type1 (thn (ha.run q pins s σ H _ I h) fun us s1 ⟨vs, H1, I1, r1, q1⟩ => ?_) hs hpl))
  obtain ⟨a, b, xs, ys, rfl, hx, hy, hz, fin⟩ := q1
  cases r1 with
  | cons ra rr =>
    cases rr with
    | cons rb rr =>
      cases rr
      cases ra
      cases rb
      obtain ⟨its, rv, p1, _⟩ := I1.tuple hx
      obtain ⟨its2, rv2, p2, _⟩ := I1.tuple hy
      obtain ⟨o1, ho1, _⟩ := id p1
      obtain ⟨o2, ho2, _⟩ := id p2
      refine RZ.call_zipT (show s1.heap.IsTuple a its.toArray from p1) (show s1.heap.IsTuple b its2.toArray from p2) fun h' z1 z2 z3 z4 z5 sz hk => PyProof.Rows.args_nil ?_
      have D := PySem.W.ktu_apart s1.heap.objs.size a b (Heap.lt_size ho1) (Heap.lt_size ho2)
      have n1 := rv.length
      have n2 := rv2.length
      refine call_tupZip (s := { s1 with heap := h' }) (I1.ok.hd hc) D z1 z2 z3 z4 z5 (let ⟨o, e, r⟩ := p1; ⟨o, hk _ _ e, r⟩) (let ⟨o, e, r⟩ := p2; ⟨o, hk _ _ e, r⟩) (by rw [List.size_toArray, ← n1]; exact hz) fun h2 acc k2 pr hw => ?_
      have e5 : h'.objs.size = s1.heap.objs.size + 5 := sz
      have keep2 : ∀ c o, s1.heap.get? c = some o → h2.get? c = some o := fun c o e => by
        have hl := Heap.lt_size e
        refine k2 c o (by show c < h'.objs.size; rw [e5]; exact Nat.lt_of_lt_of_le hl (Nat.le_add_right _ _)) ?_ ?_ ?_ ?_ (hk c o e)
        · exact Nat.ne_of_lt (Nat.lt_of_lt_of_le hl (Nat.le_add_right _ 4))
        · exact Nat.ne_of_lt (Nat.lt_of_lt_of_le hl (Nat.le_add_right _ 3))
        · exact Nat.ne_of_lt hl
        · exact Nat.ne_of_lt (Nat.lt_of_lt_of_le hl (Nat.le_add_right _ 1))
      obtain ⟨ts, et, ht⟩ := refs_of (P := fun j T => s1.heap.objs.size ≤ T ∧ ∃ x y, IsPair h2 T x y ∧ its.toArray[j]? = some x ∧ its2.toArray[j]? = some y) fun j v e => by
        obtain ⟨T, x, y, g1, g2, g3, g4, g5⟩ := pr.2 j v e
        exact ⟨T, g1, Nat.le_trans (by show s1.heap.objs.size ≤ h'.objs.size + 1; rw [e5]; exact Nat.le_add_right _ 6) g2, x, y, g3, g4, g5⟩
      have tl : ts.length = min xs.length ys.length := by
        have e := congrArg List.length et
        rw [List.length_map, Array.length_toList, pr.1, List.size_toArray, List.size_toArray] at e
        rw [← e, n1, n2]
      -- the items of the j-th pair
      have each : ∀ (j : Nat) (t : Addr), ts[j]? = some t → s1.heap.objs.size ≤ t ∧ t < h2.objs.size ∧ ∃ x y u v, xs[j]? = some x ∧ ys[j]? = some y ∧ IsPair h2 t u v ∧ RelV x u ∧ RelV y v := fun j t e => by
        obtain ⟨g1, u, v, g2, g3, g4⟩ := ht j t e
        obtain ⟨x, y1, y2⟩ : ∃ x, xs[j]? = some x ∧ RelV x u := by
          have hj : j < xs.length := by rw [n1]; have := (Array.getElem?_eq_some_iff.mp g3).1; simpa using this
          obtain ⟨u', w1, w2⟩ := vals_get j xs[j] rv (List.getElem?_eq_getElem hj)
          rw [List.getElem?_toArray, w1] at g3
          cases g3
          exact ⟨_, List.getElem?_eq_getElem hj, w2⟩
        obtain ⟨y, y3, y4⟩ : ∃ y, ys[j]? = some y ∧ RelV y v := by
          have hj : j < ys.length := by rw [n2]; have := (Array.getElem?_eq_some_iff.mp g4).1; simpa using this
          obtain ⟨u', w1, w2⟩ := vals_get j ys[j] rv2 (List.getElem?_eq_getElem hj)
          rw [List.getElem?_toArray, w1] at g4
          cases g4
          exact ⟨_, List.getElem?_eq_getElem hj, w2⟩
        exact ⟨g1, Heap.lt_size g2, x, y, u, v, y1, y3, g2, y2, y4⟩
      obtain ⟨H2, eH⟩ : ∃ H2 : Hp, H2 = fun c => if c < s1.heap.objs.size then H1 c else if c = h2.objs.size then some (.tup (ts.map V.ref)) else if hj : ∃ (j : Nat) (x y : V), ts[j]? = some c ∧ xs[j]? = some x ∧ ys[j]? = some y then some (.tup [hj.choose_spec.choose, hj.choose_spec.choose_spec.choose]) else none := ⟨_, rfl⟩
      have hle : s1.heap.objs.size ≤ h2.objs.size := by
        have hw : h'.objs.size < h2.objs.size := hw
        rw [e5] at hw
        exact Nat.le_of_lt (Nat.lt_of_le_of_lt (Nat.le_add_right _ 5) hw)
      have h2q : H2 h2.objs.size = some (.tup (ts.map V.ref)) := by
        rw [eH]
        simp only [if_neg (Nat.not_lt.mpr hle), if_true]
      have h2t : ∀ (j : Nat) (t : Addr), ts[j]? = some t → ∃ x y u v, xs[j]? = some x ∧ ys[j]? = some y ∧ H2 t = some (.tup [x, y]) ∧ IsPair h2 t u v ∧ RelV x u ∧ RelV y v := fun j t e => by
        obtain ⟨g1, g2, x, y, u, v, g3, g4, g5, g6, g7⟩ := each j t e
        have ex : ∃ (j : Nat) (x y : V), ts[j]? = some t ∧ xs[j]? = some x ∧ ys[j]? = some y := ⟨j, x, y, e, g3, g4⟩
        refine ⟨x, y, u, v, g3, g4, ?_, g5, g6, g7⟩
        rw [eH]
        simp only [if_neg (Nat.not_lt.mpr g1), if_neg (Nat.ne_of_lt g2), dif_pos ex]
        obtain ⟨s1', s2', s3'⟩ := ex.choose_spec.choose_spec.choose_spec
        obtain ⟨_, _, x', y', u', v', k3, k4, k5, k6, k7⟩ := each _ t s1'
        rw [s2'] at k3
        rw [s3'] at k4
        cases k3
        cases k4
        have k5 : h2.get? t = some { cls := .type "tuple", data := .seq #[u', v'] } := k5
        have g5' : h2.get? t = some { cls := .type "tuple", data := .seq #[u, v] } := g5
        cases g5'.symm.trans k5
        exact congrArg (fun l => some (HO.tup l)) (List.cons_eq_cons.mpr ⟨RelV.inj k6 g6, List.cons_eq_cons.mpr ⟨RelV.inj k7 g7, rfl⟩⟩)
      have I2 : Inv X pins σ H2 { s1 with heap := h2.push { cls := .type "tuple", data := .seq acc } } := by
        refine laidN (t' := s1.toks) I1 (fun c o e => Heap.get?_push_of_some _ (keep2 c o e)) (fun c hcl => by rw [eH]; simp only [if_pos hcl]) fun c o hcl e => ?_
        by_cases hq : c = h2.objs.size
        · rw [hq, h2q] at e
          cases e
          refine ⟨_, rfl, by rw [List.length_map, tl, sizeLine_eq]; omega, ts.map Value.ref, vals_refs ts, ?_⟩
          rw [hq, ← et]
          have : acc.toList.toArray = acc := by simp
          rw [this]
          exact IsTup.new _ _
        · have e2 := e
          rw [eH] at e2
          simp only [if_neg (Nat.not_lt.mpr hcl), if_neg hq] at e2
          split at e2
          · rename_i hj
            obtain ⟨s1', s2', s3'⟩ := hj.choose_spec.choose_spec.choose_spec
            obtain ⟨x, y, u, v, g3, g4, g5, g6, g7, g8⟩ := h2t _ c s1'
            rw [g5] at e
            cases e
            refine ⟨_, rfl, by show 2 ≤ sizeLine; decide, [u, v], .cons g7 (.cons g8 .nil), ?_⟩
            exact ⟨_, Heap.get?_push_of_some _ g6, rfl, 0, rfl⟩
          · cases e2
      refine ⟨.ref h2.objs.size, H2, I2, rfl, fin H2 h2.objs.size ts (fun c o e => ?_) (I1.hok.fresh hle) h2q tl fun j t e => ?_⟩
      · rw [eH]
        simp only [if_pos (I1.hok.lt e)]
        exact e
      · obtain ⟨x, y, u, v, g3, g4, g5, _⟩ := h2t j t e
        exact ⟨I1.hok.fresh (each j t e).1, x, y, g3, g4, g5⟩
end
end En
end

section
set_option maxRecDepth 100000
set_option maxHeartbeats 4000000
/-! FF: the evaluator's tuple(zip(a, b)). -/
namespace En
open PySem PySem.Spec PyProof.Rows L2
theorem Reps.ofGet {K : PySem.W.Frag} {ρ : List Addr} {H : Hp} : ∀ {ds : List D} {vs : List V}, ds.length = vs.length → (∀ (j : Nat) (d : D) (v : V), ds[j]? = some d → vs[j]? = some v → Rep K ρ H d v) → Reps K ρ H ds vs
  | [], [], _, _ => .nil
  | [], _ :: _, e, _ => by simp at e
  | _ :: _, [], e, _ => by simp at e
  | d :: ds, v :: vs, e, h => .cons (h 0 d v rfl rfl) (Reps.ofGet (by simpa using e) fun j d v h1 h2 => h (j + 1) d v (by simpa using h1) (by simpa using h2))
section
variable {X : Cx} {a : Ad} {W : L2.St → XK}
theorem s_tupZip {e1 e2 : Expr} {l : Lst} {p p2 q pos : Pos} (hc : X.calm = true) (hg : Gl X "tuple") (hm : X.mg "tuple" = none) (hg2 : Gl X "zip") (hm2 : X.mg "zip" = none) (h1 : noStar e1 = true) (h2 : noStar e2 = true) (ha : PA X [e1, e2] (tL X.K a W l)) :
    PE X (.Call (.Name "tuple" p) [.Call (.Name "zip" p2) [e1, e2] [] q] [] pos) (tE X.K a W (xTupZip l)) := by
  refine (pe_tupZip hc hg hm hg2 hm2 ha (star_of h1) (no_star (by rw [List.all_cons, h2]; rfl))).imp fun σ H Q ⟨ρ, η, env, rel, er, h⟩ => ?_
  refine tL.bind rel er h fun ds η1 ρ1 H1 vs e1 r1 er1 p1 h1 => ?_
  split at h1
  · rename_i xs ys
    obtain ⟨v, u, rfl, pv, pu⟩ := p1.two
    obtain ⟨⟨z1, z2⟩, h1⟩ := if_bad h1
    obtain ⟨qa, va, rfl, sa, ra⟩ := pv.sqT
    obtain ⟨qb, vb, rfl, sb, rb⟩ := pu.sqT
    refine ⟨qa, qb, va, vb, rfl, sa, sb, by rw [← ra.length]; exact z1, fun H2 q2 ts kp nq hq hl each => ?_⟩
    refine h1 ρ1 H2 _ (.kept kp) (r1.kept kp) (.tup (.inl hq) (r1.free nq) (Reps.ofGet ?_ fun j d v hd hv => ?_))
    · unfold zipL
      rw [List.length_map, List.length_map, List.length_zip, hl, ra.length, rb.length]
    · obtain ⟨t, ht, rfl⟩ : ∃ t, ts[j]? = some t ∧ V.ref t = v := by
        rw [List.getElem?_map] at hv
        exact Option.map_eq_some_iff.mp hv
      obtain ⟨nt, x, y, hx, hy, h9⟩ := each j t ht
      obtain ⟨dx, gx, rx⟩ := ra.getV hx
      obtain ⟨dy, gy, ry⟩ := rb.getV hy
      have e : (zipL xs ys)[j]? = some (.tup [dx, dy]) := by
        unfold zipL
        rw [List.getElem?_map, List.getElem?_zip_eq_some (z := (dx, dy)) |>.mpr ⟨gx, gy⟩]
        rfl
      rw [e] at hd
      cases hd
      exact .tup (.inl h9) (r1.free nt) (.cons (rx.mono (.kept kp)) (.cons (ry.mono (.kept kp)) .nil))
  · exact h1.elim
end
end En
end

section
set_option maxRecDepth 100000
set_option maxHeartbeats 4000000
/-! LA: a lambda without parameters, handed to a def that calls it and catches what it raises. -/
namespace En
open PySem PySem.Spec PyProof.Rows L2 LamX
/-- the lambda's body: what it lets out is told with its context None -/
def lamN (X : Cx) (A : Around) (outer : List Env) (s : Shared) (H : Hp) (E : XK) (scope : Scope) (f c' : Addr) : Cx :=
  (lamCx X A outer s H E scope f c').tr [] fun e s' => wpAny (model X.prog X.w) (A.deeper (lamEnv X scope s.heap.objs.size f c')) (leaving (lamEnv X scope s.heap.objs.size f c') e)
    (fun _ s2 => L2N.CX X.prog X.w outer H s E e s2) (fun e2 s2 => L2N.CX X.prog X.w outer H s E e2 s2) s'
/-- the def that is given the lambda -/
abbrev gotN (X : Cx) (Ng : List Str) (qg : Str) (sg : Scope) (g : Addr) (cdg : Value) (s : Shared) (H : Hp) (Eg : XK) : Cx := cxOf (L2N.CX X.prog X.w) X.prog X.w X.K X.mg X.base Ng qg sg g cdg X.A X.stack s H Eg
section
variable {X : Cx} {pins : List (Addr × Obj)} {σ : L2.St} {H HZ : Hp} {s s1 : Shared}
theorem act_N {Eg : XK} {Ng : List Str} {qg : Str} {sg : Scope} {g f c' : Addr} {cdg pm ctv : Value} {params : Arguments} {body : Expr} {scope : Scope} {k i : Nat} {a : Str} {pn : List (Addr × Obj)} {xe : Value → Shared → Prop} {W : WX} {E : XK} {tb : TE} {p1 p2 : Pos}
    (I : Inv X pins σ H s) (L : LamS X.env.scope scope) (hf : s.heap.get? f = some (PySem.W.kla_obj "<lambda>" (X.env.qual ++ "<lambda>") params body scope (cloFrom X.env.cells scope.names []) pm c' ctv)) (hfn : H f = none) (hfr : f ∉ frs X.stack)
    (hbind : bindArgs (PySem.W.kla_fn "<lambda>" (X.env.qual ++ "<lambda>") params body scope (cloFrom X.env.cells scope.names []) pm (.ref c') ctv) ⟨[], []⟩ = pure [])
    (tk : L2N.Takes ((gotN X Ng qg sg g cdg s H Eg).tr pn xe) W) (hW : ∀ cls d σ' H', E cls d H' → W cls d σ' H') (hr : Room (k + 1) (X.A.deeper (envOfC qg sg s.heap.objs.size g cdg)))
    (hbody : ∀ (A : Around) (outer : List Env) (s : Shared) (H : Hp), Room k (A.deeper (lamEnv X scope s.heap.objs.size f c')) → A.guards = X.A.guards → PE (lamN X A outer s H E scope f c') body tb)
    (hN : Ng[i]? = some a) (hv : Vis sg a) (hd : (a == ("__debug__" : Str)) = false := by decide) (hcd : (a == ("__classdict__" : Str)) = false := by decide) :
    PE ((gotN X Ng qg sg g cdg s H Eg).tr pn xe) (.Call (.Name a p1) [] [] p2) (fun σZ HZ Q => σZ[i]? = some (some (.ref f)) ∧ HZ c' = some (CodeO c' (X.env.qual ++ "<lambda>")) ∧ tb σ HZ Q) := by
  refine ⟨fun pinsZ sZ σZ HZ Q IZ ⟨hs, hc, ht⟩ => ?_⟩
  refine wpAny_Call_Name_kw (thn ((pe_var (pos := p1) (i := i) hN hv hd hcd).run pinsZ sZ σZ HZ (fun v H1 => v = .ref f ∧ H1 = HZ) IZ ⟨.ref f, hs, rfl, rfl⟩) fun u s1 ⟨v, H1, I1, r1, ev, eH⟩ => ?_)
  subst ev
  subst eH
  obtain rfl : u = Value.ref f := r1
  have of1 := I1.base.keep f _ hf hfn hfr (fun z => nomatch (show f ∈ ([] : List Addr) from z))
  refine PySem.W.callWith_F0 ⟨_, _, _, _, of1⟩ ?_
  have un : Un (frs X.stack) [] H H1 s.heap s1.heap := I1.base
  obtain ⟨⟨oc, vs, t, hoc, hdc, hvc⟩, _, _⟩ := I1.hok c' _ hc
  have rc : codeAny (model X.prog X.w) (X.A.deeper (envOfC qg sg s.heap.objs.size g cdg)) (.call (.ref f) ⟨[], []⟩)
      (CR (L2N.CX X.prog X.w) (envOfC qg sg s.heap.objs.size g cdg :: X.stack) X.prog X.w H1 s1 Q E) s1 := by
    refine PySem.W.kla_callFunE hr.depth of1 rfl L.co L.gen rfl ⟨c', oc, vs, t, rfl, hoc, hdc, hvc⟩ ?_
    rw [hbind]
    refine wpAny_pure (wpAny_newFunctionEnv (fun y hy => (L.own y hy).2) (fun y hy => absurd hy (by simp)) (fun h2 hns hsb => ⟨I1.nolimit.fresh _ hsb, ?_⟩) L.kind)
    show codeAny _ _ (.expr body (lamEnv X scope s1.heap.objs.size f c')) _ _
    have kp : ∀ b o, s1.heap.get? b = some o → h2.get? b = some o := fun b o e => hsb.extBut b o (Nat.ne_of_lt (Heap.lt_size e)) (Heap.get?_push_of_some _ e)
    have J := lam_start2 (E := E) (c' := c') (f := f) I L I1.env0 hr.hd un hns kp (tk := s1.toks + ([] : List (Str × Value)).length)
    refine PySem.W.kla_codeExpr (wpAny_mono ((hbody _ _ s1 H1 (hr.deeper _) rfl).run [] _ _ H1 Q (J.toTry _) ht) (fun v s' ⟨w2, H2, J2, rv, q⟩ => ?_) fun e s' hq => hq)
    exact ⟨w2, H2, J2.os, J2.bare, J2.base, J2.hok, rv, q⟩
  refine wpAny_call (codeAny_mono rc fun r s' hq => ?_)
  match r with
  | .error e => exact L2N.passes_call tk hW pinsZ σZ H1 s1 e s' I1 hq
  | .ok (.ret u) => exact I1.after hq
  | .ok .next => exact hq.elim
  | .ok .brk => exact hq.elim
  | .ok .cont => exact hq.elim
/-- the def calls what it got -/
def GivesN (X : Cx) (Ng : List Str) (x : Str) (sg : Scope) (g : Addr) (cdg : Value) (bg : List Stmt) (a : Str) (q : Str) (TT : (XK → Hp → VK → Prop) → Hp → VK → Prop) : Prop :=
  ∀ (f c' : Addr) (s : Shared) (H : Hp) (Q : VK) (tl : XK → Hp → VK → Prop),
    (∀ (W : WX) (pn : List (Addr × Obj)) (xe : Value → Shared → Prop) (E : XK) (p1 p2 : Pos), L2N.Takes ((gotN X Ng x sg g cdg s H fun _ _ _ => False).tr pn xe) W → (∀ cls d σ' H', E cls d H' → W cls d σ' H') →
      PE ((gotN X Ng x sg g cdg s H fun _ _ _ => False).tr pn xe) (.Call (.Name a p1) [] [] p2) (fun σZ HZ Q => σZ[0]? = some (some (.ref f)) ∧ HZ c' = some (CodeO c' q) ∧ tl E HZ Q)) →
    H c' = some (CodeO c' q) → TT tl H Q →
    ∃ t, PSs (gotN X Ng x sg g cdg s H fun _ _ _ => False) bg t ∧ t { nx := fun _ H' => Q .non H', rt := Q } (L2.start Ng [.ref f]) H
/-- x(lambda: body) -/
theorem pe_lamN {T : List (Addr × Str)} {TT : (XK → Hp → VK → Prop) → Hp → VK → Prop} {x a : Str} {g c P : Addr} {k : Nat} {pg : Arguments} {bg : List Stmt} {sg : Scope} {dV kV doc pm cdv ct oc : Value} {an od : Option Addr} {osl : Array (Option Value)} {Ng : List Str}
    {params : Arguments} {body : Expr} {scope : Scope} {t : XK → TE} {p lpos pos : Pos} (hg : Gl X x) (hm : X.mg x = some (.ref g)) (hk : PySem.W.keepIn X.K (.ref g) = true)
    (lk : X.K.lookup g = some ⟨oc, od, .func (PySem.W.fnOf x x pg bg sg dV kV doc pm an cdv ct), osl⟩) (hcg : PySem.W.codeIn X.K cdv x = true) (hb : L2.Binds X.K (PySem.W.fnOf x x pg bg sg dV kV doc pm an cdv ct) [a] []) (Sg : FnScope Ng [a] sg) (hNg : Ng[0]? = some a) (hva : Vis sg a)
    (hG : GivesN X Ng x sg g cdv bg a (X.env.qual ++ "<lambda>") TT)
    (TB : TabB X.base X.mg c P) (hcode : X.env.code = .ref c) (hmT : (P, X.env.qual ++ "<lambda>") ∈ T) (hu : ∀ p ∈ T, p.1 = P → p.2 = X.env.qual ++ "<lambda>") (hr : Room (k + 2) X.A) (L : LamS X.env.scope scope) (hdef : defaultsOf params X.env = ([], []))
    (hbind : ∀ (q : Str) (cl : List (Str × Addr)) (pm cv ctv : Value), bindArgs (PySem.W.kla_fn "<lambda>" q params body scope cl pm cv ctv) ⟨[], []⟩ = pure [])
    (hbody : ∀ (A : Around) (outer : List Env) (s : Shared) (H : Hp) (E : XK) (f c' : Addr), Room k (A.deeper (lamEnv X scope s.heap.objs.size f c')) → A.guards = X.A.guards → PE (lamN X A outer s H E scope f c') body (t E))
    (hdb : (x == ("__debug__" : Str)) = false := by decide) (hd : (a == ("__debug__" : Str)) = false := by decide) (hcd : (a == ("__classdict__" : Str)) = false := by decide) :
    PE X (.Call (.Name x p) [.Lambda params body scope lpos] [] pos) (tLam T TT t) := by
  refine ⟨fun pins s σ H Q I ⟨hT, h⟩ => ?_⟩
  refine wpAny_Call_Name_kw (ld_glob I hg hm ?_ hdb)
  refine PySem.W.callWith_K (h₀ := X.base) I.ok.mod.kin hk ?_ (by rfl) (by rfl)
  show wpAny _ _ (spliced ((false, eval (.Lambda params body scope lpos) X.env) :: backTo pos (starEach [] X.env))) _ _ s
  refine Calls.spliced_cons (lam_make2 I TB hcode hmT hu hT hdef (L.has I.ok) fun f c2 pm2 ctv H1 s2 I1 eN T1 hf hfn hfr hco => Calls.spliced_nil ⟨I1.kIn, ?_⟩)
  have rc : codeAny (model X.prog X.w) X.A (.call (.ref g) ⟨[.ref f], []⟩) (CR (L2N.CX X.prog X.w) X.stack X.prog X.w H1 s2 Q fun _ _ _ => False) s2 := by
    refine run_ofS (N := Ng) (ps := [a]) (us := [.ref f]) (vs := [.ref f]) lk hcg Sg hr I1.env0 (hb s2 [.ref f] I1.kIn rfl) (.cons rfl .nil) rfl fun hr2 => ?_
    exact hG f c2 s2 H1 Q (fun E H' Q' => t E σ H' Q')
      (fun W pn xe E p1 p2 tk hW => act_N (i := 0) I1 L hf hfn hfr (hbind _ _ _ _ _) tk hW hr2 (fun A outer s H hr3 hgd => hbody A outer s H E f c2 hr3 hgd) hNg hva hd hcd) hco (h H1 eN T1)
  refine wpAny_call (codeAny_mono rc fun r s3 hq => ?_)
  match r with
  | .error e =>
    obtain ⟨_, _, _, _, _, _, _, _, _, _, _, _, z⟩ := hq
    exact z.elim
  | .ok (.ret u) => exact I1.after hq
  | .ok .next => exact hq.elim
  | .ok .brk => exact hq.elim
  | .ok .cont => exact hq.elim
end
end En
end

section
set_option maxRecDepth 100000
set_option maxHeartbeats 4000000
/-! ER: the evaluator is right, expression by expression, statement by statement. -/
namespace En
open PySem PySem.Spec PyProof.Rows L2

def biName : Bi → Str
  | .len => "len"
  | .range => "range"
  | .isinstance => "isinstance"
  | .tuple => "tuple"
  | .list => "list"
  | .dict => "dict"
  | .int => "int"
  | .str => "str"
  | .bool => "bool"
  | .max => "max"
  | .min => "min"
  | .sum => "sum"
  | .sorted => "sorted"
  | .all => "all"
  | .any => "any"
  | .zip => "zip"
  | .enumerate => "enumerate"
  | .set => "set"
  | .repr => "repr"
theorem boot_bi (b : Bi) : bootBuiltins (biName b) = some (biV b) := by cases b <;> decide +kernel
/-- what `said` makes of a lambda's end -/
def TTs (K : PySem.W.Frag) (a : Ad) (w : Nat → Option Str) : (XK → Hp → VK → Prop) → Hp → VK → Prop := fun tl H Q =>
  tl (fun cls d H1 => ∃ c z, cls = .ref (a.X c) ∧ d = none ∧ w c = some z ∧ ∀ H2, (∀ b o, H1 b = some o → H2 b = some o) → Q (.str z) H2) H
    fun v H1 => ∃ x, Dp K H1 v x ∧ reprOk x = true ∧ ∀ H2, (∀ b o, H1 b = some o → H2 b = some o) → Q (.str x.shown) H2
/-- the def of the name x tells what a lambda tells -/
def SaidOk (K : PySem.W.Frag) (mg : Str → Option Value) (a : Ad) (x : Str) (w : Nat → Option Str) : Prop :=
  ∃ (y : Str) (g : Addr) (pg : Arguments) (bg : List Stmt) (sg : Scope) (dV kV doc pm cdv ct oc : Value) (an od : Option Addr) (osl : Array (Option Value)) (Ng : List Str),
    mg x = some (.ref g) ∧ PySem.W.keepIn K (.ref g) = true ∧ K.lookup g = some ⟨oc, od, .func (PySem.W.fnOf x x pg bg sg dV kV doc pm an cdv ct), osl⟩ ∧ PySem.W.codeIn K cdv x = true ∧
      L2.Binds K (PySem.W.fnOf x x pg bg sg dV kV doc pm an cdv ct) [y] [] ∧ FnScope Ng [y] sg ∧ Ng[0]? = some y ∧ Vis sg y ∧ (y == ("__debug__" : Str)) = false ∧ (y == ("__classdict__" : Str)) = false ∧
      ∀ (X : Cx) (q : Str), X.K = K → X.mg = mg → X.A.guards = some [] → Room 3 X.A → GivesN X Ng x sg g cdv bg y q (TTs K a w)
/-- what a name stands for -/
def SymOk (X : Cx) (a : Ad) (T : Tb) (x : Str) : Sy → Prop
  | .slot i => X.N[i]? = some x
  | .cst d => ∃ v u, X.mg x = some u ∧ RelV v u ∧ ∀ ρ H, Rep X.K ρ H d v
  | .kt ds => ∃ t, X.mg x = some (.ref t) ∧ KTup X.K t (ds.map V.str) ∧ ∃ o, X.K.lookup t = some o ∧ o.cls = .type "tuple" ∧ o.dict = none
  | .fn f => X.mg x = some (.ref (T.fa f))
  | .cls c => X.mg x = some (.ref (a.C c))
  | .exc c => X.mg x = some (.ref (a.X c)) ∧ ExcAt X (a.X c)
  | .bi b => x = biName b ∧ X.mg x = none
  | .said w => SaidOk X.K X.mg a x w
/-- a context in which the evaluator is right -/
structure Gx (X : Cx) (a : Ad) (T : Tb) (G : Gst) (cx : Cc) (k : Nat) (sc : Scope) (blk : Bool) (W : L2.St → XK) : Prop where
  scp : X.env.scope = sc
  nm : X.N = cx.N
  nd : X.N.Nodup
  calm : X.calm = true
  room : Room (k + 1) X.A
  grd : X.A.guards = some []
  tk : L2N.Takes X (wx W)
  fnl : blk = false → ∀ x, X.fn x = true
  sym : ∀ x s, cx.tab.lookup x = some s → SymOk X a T x s
  fns : ∀ f n ds, G.dfl f n = some ds → FnAt X a T G k f
  fnk : ∀ f n ks g, G.kwd f n ks = some g → FnAt X a T G k f
  sta : Sta X.K a T G
  bi : ∀ X' : Cx, X'.calm = true → X'.A.units + 65 < cLine → X'.A.guards = some [] → ∀ b, b ≠ .range → BiOk X' a b (G.B b)
  bm : ∀ X' : Cx, X'.A.units + 65 < cLine → ∀ t m, G.mok t m = true → MtOk X' a t m (G.M t m)
  stk : blk = false → X.stack = X.env :: X.outer ∧ X.env.frame = some X.env.locals
  po : blk = false → PassesOwn (model X.prog X.w) X.A X.env X.xe
  sub : ∀ c d, c < G.nx → d < G.nx → PySem.W.exmOne X.K (.ref (a.X c)) (.ref (a.X d)) = some (G.sub c d)
  isc : ∀ c ρ η H d v b, Rel X.K a.C ρ η H → Rep X.K ρ H d v → G.isc c d η = some b → ∃ t, TyX X.K H v t ∧ PySem.W.kitOne X.K t (.ref (a.C c)) = some b
  lam : blk = false → cx.lam = true → Room (k + 3) X.A ∧ ∃ c P, LamX.TabB X.base X.mg c P ∧ X.env.code = .ref c ∧ (P, X.env.qual ++ "<lambda>") ∈ a.C.T ∧ ∀ p ∈ a.C.T, p.1 = P → p.2 = X.env.qual ++ "<lambda>"
section
variable {X : Cx} {a : Ad} {T : Tb} {G : Gst} {cx : Cc} {k : Nat} {sc : Scope} {blk : Bool} {W : L2.St → XK}
theorem Gx.units (g : Gx X a T G cx k sc blk W) : X.A.units + 65 < cLine := by have := g.room.un; omega
theorem Gx.room0 (g : Gx X a T G cx k sc blk W) : Room k X.A := g.room.mono (Nat.le_succ k)
theorem Gx.pass (g : Gx X a T G cx k sc blk W) (σ : L2.St) : PassesAt (CF X) X σ (W σ) := passW g.tk σ
theorem gloOf {x : Str} (hs : X.env.scope = sc) (h : gloB sc x = true) : Gl X x ∧ (x == ("__debug__" : Str)) = false ∧ x ≠ "__name__" := by
  unfold gloB at h
  rw [Bool.and_eq_true, Bool.and_eq_true] at h
  obtain ⟨⟨h1, h2⟩, h3⟩ := h
  refine ⟨?_, by simpa using h2, of_decide_eq_true h3⟩
  show X.env.scope.names.lookup x = some .globalImplicit
  rw [hs]
  split at h1
  · assumption
  · cases h1
theorem visOf {x : Str} (hs : X.env.scope = sc) (h : visB sc x = true) : Vis X.env.scope x ∧ (x == ("__debug__" : Str)) = false ∧ (x == ("__classdict__" : Str)) = false := by
  unfold visB at h
  rw [Bool.and_eq_true, Bool.and_eq_true] at h
  obtain ⟨⟨h1, h2⟩, h3⟩ := h
  refine ⟨?_, by simpa using h2, by simpa using h3⟩
  unfold Vis
  rw [hs]
  split at h1
  · exact .inl (by assumption)
  · exact .inr (.inl (by assumption))
  · exact .inr (.inr (by assumption))
  · cases h1
theorem locOf {x : Str} (hs : X.env.scope = sc) (hf : blk = false → ∀ x, X.fn x = true) (h : locB blk sc x = true) : L2.Loc X.env.scope x ∧ (X.fn x = true ∨ X.env.scope.names.lookup x = some .local) := by
  unfold locB at h
  unfold L2.Loc
  rw [hs]
  split at h
  · rename_i q
    exact ⟨.inl q, .inr q⟩
  · rename_i q
    cases blk with
    | true => cases h
    | false => exact ⟨.inr q, .inl (hf rfl x)⟩
  · cases h
/-! ### lengths -/
theorem evL_len : ∀ (es : List Expr) (sc : Scope) (blk : Bool) {env : Ev} {η : Hv} {vs : List D} {η' : Hv}, evL cx G sc blk es env η = .ok vs η' → vs.length = es.length
  | [], sc, blk, env, η, vs, η', h => by
    have h : R.ok [] η = R.ok vs η' := by simpa [evL, xNil] using h
    cases h
    rfl
  | e :: r, sc, blk, env, η, vs, η', h => by
    simp only [evL] at h
    split at h
    · unfold xCons at h
      cases q : evE cx G sc blk e env η with
      | ok d η1 =>
        simp only [q, R.bind] at h
        cases q2 : evL cx G sc blk r env η1 with
        | ok ds η2 =>
          simp only [q2] at h
          cases h
          exact congrArg Nat.succ (evL_len r sc blk q2)
        | exc c η2 => simp only [q2] at h; cases h
        | bad => simp only [q2] at h; cases h
      | exc c η1 => simp only [q, R.bind] at h; cases h
      | bad => simp only [q, R.bind] at h; cases h
    · cases h
theorem evK_len : ∀ (es : List Keyword) (sc : Scope) (blk : Bool) {env : Ev} {η : Hv} {vs : List D} {η' : Hv}, evK cx G sc blk es env η = .ok vs η' → vs.length = es.length
  | [], sc, blk, env, η, vs, η', h => by
    have h : R.ok [] η = R.ok vs η' := by simpa [evK, xNil] using h
    cases h
    rfl
  | ⟨nm, e, p⟩ :: r, sc, blk, env, η, vs, η', h => by
    simp only [evK] at h
    unfold xCons at h
    cases q : evE cx G sc blk e env η with
    | ok d η1 =>
      simp only [q, R.bind] at h
      cases q2 : evK cx G sc blk r env η1 with
      | ok ds η2 =>
        simp only [q2] at h
        cases h
        exact congrArg Nat.succ (evK_len r sc blk q2)
      | exc c η2 => simp only [q2] at h; cases h
      | bad => simp only [q2] at h; cases h
    | exc c η1 => simp only [q, R.bind] at h; cases h
    | bad => simp only [q, R.bind] at h; cases h
/-! ### calls -/
/-- what a lambda's body is to be -/
def LamB (X : Cx) (a : Ad) (k : Nat) (scope : Scope) (body : Expr) (m : Exp) : Prop := ∀ (A : Around) (outer : List Env) (s : Shared) (H : Hp) (E : XK) (f c' : Addr), Room (k + 1) (A.deeper (LamX.lamEnv X scope s.heap.objs.size f c')) → A.guards = some [] →
  PE (lamN X A outer s H E scope f c') body (tE X.K a (fun _ => E) m)
/-- what is seen of the arguments as a whole -/
inductive PreOk (X : Cx) (a : Ad) (W : L2.St → XK) (sc : Scope) (k : Nat) (blk lm : Bool) : List Expr → Pre → Prop
  | no {args : List Expr} : PreOk X a W sc k blk lm args .no
  | rng {y : Str} {q p2 : Pos} {e : Expr} {m : Exp} {ok : Bool} (h : ok = true → gloB sc y = true ∧ noStar e = true) (he : PE X e (tE X.K a W m)) : PreOk X a W sc k blk lm [.Call (.Name y q) [e] [] p2] (.rng y (En.iRng1 m) ok)
  | itm {e : Expr} {m : Str} {apos cpos : Pos} {mo : Exp} {ok : Bool} (h : ok = true → notSup e = true ∧ (apos.endLine == cpos.line) = true) (he : PE X e (tE X.K a W mo)) : PreOk X a W sc k blk lm [.Call (.Attribute e m apos) [] [] cpos] (.itm m mo ok)
  | sets {elt tg it : Expr} {ifs : List Expr} {asy : Int} {scope : Scope} {spos : Pos} {m : Exp} {ok : Bool} (h : ok = true → Gl X "len" → X.mg "len" = none → ∀ (q p2 : Pos), PE X (.Call (.Name "len" q) [.SetComp elt [⟨tg, it, ifs, asy⟩] scope spos] [] p2) (tE X.K a W m)) :
    PreOk X a W sc k blk lm [.SetComp elt [⟨tg, it, ifs, asy⟩] scope spos] (.sets m ok)
  | zip {y : Str} {q p2 : Pos} {e1 e2 : Expr} {l : Lst} {ok : Bool} (h : ok = true → gloB sc y = true ∧ noStar e1 = true ∧ noStar e2 = true) (he : ok = true → PA X [e1, e2] (tL X.K a W l)) : PreOk X a W sc k blk lm [.Call (.Name y q) [e1, e2] [] p2] (.zip y l ok)
  | lam {params : Arguments} {body : Expr} {scope : Scope} {lpos : Pos} {m : Exp} {ok : Bool} (h : ok = true → lm = true ∧ blk = false ∧ LamX.lamSB sc scope = true ∧ lamAr params = true) (he : ok = true → LamB X a k scope body m) :
    PreOk X a W sc k blk lm [.Lambda params body scope lpos] (.lam m ok)
theorem pe_bads {e : Expr} {m : Exp} (h : ∀ env η, m env η = .bad) : PE X e (tE X.K a W m) := by
  have : m = xBad := by funext env η; exact h env η
  rw [this]
  exact s_bad
theorem headOf {args : List Expr} (hst : args.all noStar = true) (hH : ∀ e r, args = e :: r → PE X e (tE X.K a W (evE cx G sc blk e))) {e : Expr} {r : List Expr} (h : args = e :: r) : PE X e (tE X.K a W (evH cx G sc blk args)) := by
  subst h
  have hs : noStar e = true := by rw [List.all_cons, Bool.and_eq_true] at hst; exact hst.1
  have := hH e r rfl
  simp only [evH, hs, if_true]
  exact this
theorem lamAr_eq {p : Arguments} (h : lamAr p = true) : p = ⟨[], [], none, [], [], none, []⟩ := by
  obtain ⟨p1, p2, p3, p4, p5, p6, p7⟩ := p
  simp only [lamAr, Bool.and_eq_true, List.isEmpty_iff, Option.isNone_iff_eq_none] at h
  obtain ⟨⟨⟨⟨⟨⟨rfl, rfl⟩, rfl⟩, rfl⟩, rfl⟩, rfl⟩, rfl⟩ := h
  rfl
/-- said(lambda: body) -/
theorem s_said {x : Str} {w : Nat → Option Str} {params : Arguments} {body : Expr} {scope : Scope} {m : Exp} {q lpos pos : Pos} (g : Gx X a T G cx k sc false W) (hx : Gl X x) (h1 : (x == ("__debug__" : Str)) = false) (hl : cx.lam = true) (ok : SaidOk X.K X.mg a x w)
    (hL : LamX.lamSB sc scope = true) (hp : lamAr params = true) (hB : LamB X a k scope body m) : PE X (.Call (.Name x q) [.Lambda params body scope lpos] [] pos) (tE X.K a W (xSaid m w)) := by
  obtain ⟨y, gd, pg, bg, sg, dV, kV, doc, pm, cdv, ct, oc, an, od, osl, Ng, e1, e2, e3, e4, e5, e6, e7, e8, e9, e10, e11⟩ := ok
  obtain ⟨hr, c, P, TB, hc, hm, hu⟩ := g.lam rfl hl
  obtain rfl := lamAr_eq hp
  have L : LamX.LamS X.env.scope scope := by rw [g.scp]; exact LamX.lamS_by hL
  refine (pe_lamN (T := a.C.T) (k := k + 1) (t := fun E => tE X.K a (fun _ => E) m) hx e1 e2 e3 e4 e5 e6 e7 e8 (e11 X _ rfl rfl g.grd (hr.mono (Nat.le_add_left 3 k))) TB hc hm hu hr L rfl (fun _ _ _ _ _ => rfl)
    (fun A outer s H E f c' hr2 hg2 => hB A outer s H E f c' hr2 (hg2.trans g.grd)) h1 e9 e10).imp fun σ H Q ⟨ρ, η, env, rel, er, h⟩ => ⟨rel.tabs, fun H1 eN T1 => ?_⟩
  · have rel1 := rel.ofN eN T1
    have ex1 : Ext ρ H ρ H1 := .ofN eN
    refine ⟨ρ, η, env, rel1, er.mono ex1, ?_⟩
    unfold xSaid at h
    cases z : m env η with
    | ok d η1 =>
      rw [z] at h
      dsimp only at h
      unfold reprF at h
      dsimp only at h
      intro ρ2 H2 v ex2 r2 p2
      split at h
      · rename_i u hu2
        split at h
        · rename_i hok
          refine ⟨u, py_of r2 p2 hu2, hok, fun H3 kp => h ρ2 H3 _ ((ex1.trans ex2).trans (.kept kp)) (r2.kept kp) (.str _)⟩
        · exact h.elim
      · exact h.elim
    | exc c η1 =>
      rw [z] at h
      dsimp only at h
      intro ρ2 H2 ex2 r2
      split at h
      · rename_i u hu2
        exact ⟨c, u, rfl, rfl, hu2, fun H3 kp => h ρ2 H3 _ ((ex1.trans ex2).trans (.kept kp)) (r2.kept kp) (.str _)⟩
      · exact h.elim
    | bad =>
      rw [z] at h
      exact h.elim
theorem s_callN {x : Str} {args : List Expr} {kws : List Keyword} {q pos : Pos} {p : Pre} (g : Gx X a T G cx k sc blk W) (hg : gloB sc x = true) (hst : args.all noStar = true) (hH : ∀ e r, args = e :: r → PE X e (tE X.K a W (evE cx G sc blk e))) (hp : PreOk X a W sc k blk cx.lam args p) (hl : PA X args (tL X.K a W (evL cx G sc blk args)))
    (hk : PK X kws (tL X.K a W (evK cx G sc blk kws))) : PE X (.Call (.Name x q) args kws pos) (tE X.K a W (callN cx G sc (cx.tab.lookup x) args kws (evH cx G sc blk args) p (evL cx G sc blk args) (evK cx G sc blk kws))) := by
  obtain ⟨h1, h2, h3⟩ := gloOf g.scp hg
  cases hs : cx.tab.lookup x with
  | none => exact s_bad
  | some s =>
    have ok := g.sym x s hs
    unfold callN
    split
    · -- isinstance
      rename_i hz
      cases hz
      obtain ⟨rfl, hm⟩ := ok
      split
      · rename_i y hy
        split
        · rename_i hgy
          obtain ⟨y1, y2, y3⟩ := gloOf g.scp hgy
          have hargs : ∃ e qy, args = [e, .Name y qy] := by
            unfold secName at hy
            split at hy
            · cases hy
              exact ⟨_, _, rfl⟩
            · cases hy
          obtain ⟨e, qy, rfl⟩ := hargs
          have he : noStar e = true := by rw [List.all_cons, Bool.and_eq_true] at hst; exact hst.1
          split
          · rename_i Tb hty
            obtain ⟨e1, hm2⟩ := g.sym y _ hty
            split
            · rename_i t ht
              refine s_isi h1 hm (boot_bi .isinstance) h3 h2 he (pe_bltn (v := .ty t) y1 hm2 (u := .type t) ?_ rfl y3 y2) (.ty t) (isT_of t) (headOf hst hH rfl)
              rw [e1, boot_bi]
              cases Tb <;> simp [biType] at ht <;> subst ht <;> rfl
            · exact s_bad
          · rename_i c hty
            exact s_isi h1 hm (boot_bi .isinstance) h3 h2 he (pe_glob (v := .ref (a.C c)) y1 (g.sym y _ hty) rfl y2) (.own _) (g.isc c) (headOf hst hH rfl)
          · exact s_bad
        · exact s_bad
      · exact s_bad
    · -- list
      rename_i hz
      cases hz
      obtain ⟨rfl, hm⟩ := ok
      have plain : PE X (.Call (.Name (biName .list) q) args [] pos) (tE X.K a W (if args.isEmpty then xBad else xFn (G.B .list) (evL cx G sc blk args))) := by
        cases args with
        | nil => exact s_bad
        | cons e r => exact s_bi h1 hm (boot_bi .list) h3 h2 hst (g.bi X g.calm g.units g.grd .list (by decide)) (by decide) hl
      cases hp with
      | no => exact plain
      | sets _ => exact plain
      | lam _ _ => exact plain
      | zip _ _ => exact plain
      | @rng y qy p2 e m okb h he =>
        dsimp only
        split
        · rename_i hy
          obtain ⟨e1, hm2⟩ := g.sym y _ hy
          split
          · rename_i hb
            obtain ⟨gy, ne⟩ := h hb
            obtain ⟨y1, y2, y3⟩ := gloOf g.scp gy
            subst e1
            exact s_listRng g.calm h1 hm y1 hm2 ne he
          · exact s_bad
        · exact plain
      | @itm e m apos cpos mo okb h he =>
        dsimp only
        split
        · rename_i hm2
          subst hm2
          split
          · rename_i hb
            obtain ⟨n1, n2⟩ := h hb
            exact s_listItems g.calm h1 hm n1 n2 he
          · exact s_bad
        · exact plain
    · -- len
      rename_i hz
      cases hz
      obtain ⟨rfl, hm⟩ := ok
      have plain : PE X (.Call (.Name (biName .len) q) args [] pos) (tE X.K a W (if args.isEmpty then xBad else xFn (G.B .len) (evL cx G sc blk args))) := by
        cases args with
        | nil => exact s_bad
        | cons e r => exact s_bi h1 hm (boot_bi .len) h3 h2 hst (g.bi X g.calm g.units g.grd .len (by decide)) (by decide) hl
      cases hp with
      | no => exact plain
      | rng _ _ => exact plain
      | itm _ _ => exact plain
      | lam _ _ => exact plain
      | zip _ _ => exact plain
      | sets hb =>
        dsimp only
        split
        · rename_i hok
          exact hb hok h1 hm _ _
        · exact s_bad
    · -- tuple
      rename_i hz
      cases hz
      obtain ⟨rfl, hm⟩ := ok
      have plain : PE X (.Call (.Name (biName .tuple) q) args [] pos) (tE X.K a W (if args.isEmpty then xBad else xFn (G.B .tuple) (evL cx G sc blk args))) := by
        cases args with
        | nil => exact s_bad
        | cons e r => exact s_bi h1 hm (boot_bi .tuple) h3 h2 hst (g.bi X g.calm g.units g.grd .tuple (by decide)) (by decide) hl
      cases hp with
      | no => exact plain
      | rng _ _ => exact plain
      | itm _ _ => exact plain
      | lam _ _ => exact plain
      | sets _ => exact plain
      | @zip y qy p2 e1 e2 l2 okb h he =>
        dsimp only
        split
        · rename_i hy
          obtain ⟨e0, hm2⟩ := g.sym y _ hy
          split
          · rename_i hb
            obtain ⟨gy, ne1, ne2⟩ := h hb
            obtain ⟨y1, y2, y3⟩ := gloOf g.scp gy
            subst e0
            exact s_tupZip g.calm h1 hm y1 hm2 ne1 ne2 (he hb)
          · exact s_bad
        · exact plain
    · -- another built-in
      rename_i b hb1 hb2 hb3 hb4 hz
      cases hz
      obtain ⟨rfl, hm⟩ := ok
      split
      · exact s_bad
      · rename_i hb
        cases args with
        | nil => exact absurd rfl hb
        | cons e r =>
          have hr : b ≠ .range := fun e => hb (by subst e; rfl)
          exact s_bi h1 hm (boot_bi b) h3 h2 hst (g.bi X g.calm g.units g.grd b hr) hr hl
    · rename_i f hz
      cases hz
      split
      · rename_i ds hd
        exact s_call h1 ok h2 hst (g.fns f _ ds hd) g.room0 g.grd g.pass g.sta hd (fun env η vs η' e => evL_len args sc blk e) hl
      · exact s_bad
    · rename_i f k1 kr hz
      cases hz
      split
      · rename_i hall
        split
        · rename_i gg hd
          exact s_callK h1 ok h2 hst hall (g.fnk f _ _ gg hd) g.room0 g.grd g.pass g.sta hd (fun env η vs η' e => evL_len args sc blk e) (fun env η vs η' e => evK_len _ sc blk e) hl hk
        · exact s_bad
      · exact s_bad
    · rename_i c hz
      cases hz
      split
      · rename_i f hi
        split
        · rename_i ds hd
          exact s_make h1 ok h2 hst (g.fns f _ ds hd) g.room g.grd g.pass g.sta hi hd (fun env η vs η' e => evL_len args sc blk e) hl
        · exact s_bad
      · exact s_bad
    · rename_i c k1 kr hz
      cases hz
      split
      · rename_i hall
        split
        · rename_i f hi
          split
          · rename_i gg hd
            exact s_makeK h1 ok h2 hst hall (g.fnk f _ _ gg hd) g.room g.grd g.pass g.sta hi hd (fun env η vs η' e => evL_len args sc blk e) (fun env η vs η' e => evK_len _ sc blk e) hl hk
          · exact s_bad
        · exact s_bad
      · exact s_bad
    · rename_i w hz
      cases hz
      cases hp with
      | lam h he =>
        dsimp only
        split
        · rename_i hok
          obtain ⟨q1, q2, q3, q4⟩ := h hok
          subst q2
          exact s_said g h1 h2 q1 ok q3 q4 (he hok)
        · exact s_bad
      | no => exact s_bad
      | rng _ _ => exact s_bad
      | itm _ _ => exact s_bad
      | sets _ => exact s_bad
      | zip _ _ => exact s_bad
    · exact s_bad
theorem s_callM {o : Expr} {m : Str} {args : List Expr} {kws : List Keyword} {apos pos : Pos} (g : Gx X a T G cx k sc blk W) (hs : notSup o = true) (hline : (apos.endLine == pos.line) = true) (hst : args.all noStar = true) (hn : args.length + kws.length < 20) (hH : ∀ e r, args = e :: r → PE X e (tE X.K a W (evE cx G sc blk e)))
    (ho : PE X o (tE X.K a W (evE cx G sc blk o))) (hl : PA X args (tL X.K a W (evL cx G sc blk args))) (hk : PK X kws (tL X.K a W (evK cx G sc blk kws))) :
    PE X (.Call (.Attribute o m apos) args kws pos) (tE X.K a W (callM G m args.length kws (ktOf cx sc o) (evH cx G sc blk args) (evE cx G sc blk o) (evL cx G sc blk args) (evK cx G sc blk kws))) := by
  unfold callM
  split
  · rename_i ds hkt
    split
    · rename_i hm
      have hm := of_decide_eq_true hm
      obtain ⟨rfl, hlen⟩ := hm
      obtain ⟨e, rfl⟩ : ∃ e, args = [e] := by
        match args, hlen with
        | [e], _ => exact ⟨e, rfl⟩
      unfold ktOf at hkt
      split at hkt
      · rename_i x qx
        split at hkt
        · rename_i hg
          split at hkt
          · rename_i ds' hx
            cases hkt
            obtain ⟨h1, h2, h3⟩ := gloOf g.scp hg
            obtain ⟨t, k1, k2, k3⟩ := g.sym x _ hx
            have he : noStar e = true := by rw [List.all_cons, Bool.and_eq_true] at hst; exact hst.1
            exact s_ktix h1 k1 h2 k3 (.inr k2) hline he (headOf hst hH rfl)
          · cases hkt
        · cases hkt
      · cases hkt
    · exact s_bad
  · split
    · split
      · exact s_bad
      · rename_i hz
        cases args with
        | nil => exact absurd rfl hz
        | cons e r => exact s_bm hs hline hst (by simpa using hn) (fun t hm => g.bm X g.units t m hm) ho hl
    · exact s_meth hs hline hst (by simpa using hn) (fun f ⟨n, ds, hd⟩ => g.fns f n ds hd) g.room0 g.grd g.pass g.sta (fun env η vs η' e => evL_len args sc blk e) ho hl
    · rename_i k1 kr _
      split
      · rename_i hall
        exact s_methK hs hline hst hall hn (fun f ⟨n, ks, gg, hd⟩ => g.fnk f n ks gg hd) g.room0 g.grd g.pass g.sta (fun env η vs η' e => evL_len args sc blk e) (fun env η vs η' e => evK_len _ sc blk e) ho hl hk
      · exact s_bad
    · exact s_bad
end
end En
end

section
set_option maxRecDepth 100000
set_option maxHeartbeats 8000000
/-! ES: the main theorem. -/
namespace En
open PySem PySem.Spec PyProof.Rows L2
section
variable {a : Ad} {T : Tb} {G : Gst} {cx : Cc} {k : Nat}
theorem Gx.blk {X : Cx} {sc : Scope} {blk : Bool} {W : L2.St → XK} (g : Gx X a T G cx k sc blk W) (s : Shared) (H : Hp) (scope : Scope) (cl : List (Str × Addr)) (C : Addr) (fp : List Addr) : Gx (X.blk s H scope (compEnvC scope cl C X.env) fp) a T G cx k (relS scope sc) true WF where
  scp := by
    have := g.scp
    show relabel scope X.env = relS scope sc
    rw [← this]
    rfl
  nm := g.nm
  nd := g.nd
  calm := g.calm
  room := g.room
  grd := g.grd
  tk := fun u s' ⟨_, _, _, _, _, _, _, _, _, _, _, _, _, _, _, _, w⟩ => w
  fnl := fun h => by cases h
  sym := fun x s h => by
    have := g.sym x s h
    cases s <;> exact this
  fns := g.fns
  fnk := g.fnk
  sta := g.sta
  bi := g.bi
  bm := g.bm
  stk := fun h => by cases h
  po := fun h => by cases h
  sub := g.sub
  isc := g.isc
  lam := fun h => by cases h
theorem Gx.z {X : Cx} {sc : Scope} {blk : Bool} {W : L2.St → XK} (g : Gx X a T G cx k sc blk W) (b : Bool) : Gx X a T G (cx.z b) k sc blk W := ⟨g.scp, g.nm, g.nd, g.calm, g.room, g.grd, g.tk, g.fnl, g.sym, g.fns, g.fnk, g.sta, g.bi, g.bm, g.stk, g.po, g.sub, g.isc, g.lam⟩
theorem Gx.lamG {X : Cx} {sc scope : Scope} {W : L2.St → XK} (g : Gx X a T G cx k sc false W) (A : Around) (outer : List Env) (s : Shared) (H : Hp) (E : XK) (f c' : Addr) (hr : Room (k + 1) (A.deeper (LamX.lamEnv X scope s.heap.objs.size f c'))) (hg : A.guards = some []) : Gx (lamN X A outer s H E scope f c') a T G cx k scope true (fun _ => E) where
  scp := rfl
  nm := g.nm
  nd := g.nd
  calm := rfl
  room := hr
  grd := hg
  tk := L2N.takes_of rfl rfl rfl rfl
  fnl := fun h => by cases h
  sym := fun x s h => by
    have := g.sym x s h
    cases s <;> exact this
  fns := g.fns
  fnk := g.fnk
  sta := g.sta
  bi := g.bi
  bm := g.bm
  stk := fun h => by cases h
  po := fun h => by cases h
  sub := g.sub
  isc := g.isc
  lam := fun h => by cases h
theorem tru_tree {e : Expr} {env : Env} (h : match e with
    | .Name .. => True
    | .Attribute .. => True
    | .Subscript .. => True
    | .Call .. => True
    | .Constant .. => True
    | _ => False) (whole : Sem Value) : isTrue e env whole = (do let v ← whole; standAt e.pos; holding [v] (truthy v)) := by
  cases e <;> first | rfl | exact h.elim
/-- the slots that a target may write -/
def OkV (cx : Cc) (sc : Scope) (blk : Bool) (vs : List Nat) : Prop := ∀ x i, cx.tab.lookup x = some (.slot i) → locB blk sc x = true → i ∈ vs
theorem Reps.strs {K : PySem.W.Frag} {ρ : List Addr} {H : Hp} : ∀ (ns : List Str), Reps K ρ H (ns.map D.str) (ns.map V.str)
  | [] => .nil
  | i :: r => .cons (.str i) (Reps.strs r)
theorem own_ok (cx : Cc) (sc scope : Scope) : OkV cx (relS scope sc) true ((ownOf cx scope).map (·.2)) := by
  intro x i hx hl
  unfold locB at hl
  split at hl
  · rename_i q
    obtain ⟨k', h1, h2⟩ := lookup_relS (sc := sc) (names := scope.names) q
    have h3 : scope.names.lookup x = some .local := by
      rcases h2 with h2 | ⟨_, h2⟩
      · rw [h1, ← h2]
      · cases h2
    have hm : (x, NameKind.local) ∈ scope.names := PySem.mem_of_lookup h3
    refine List.mem_map.mpr ⟨(x, i), ?_, rfl⟩
    unfold ownOf
    refine List.mem_filterMap.mpr ⟨(x, .local), hm, ?_⟩
    simp only [hx]
  · cases hl
  · cases hl
theorem cmpT {X : Cx} {sc : Scope} {blk : Bool} {W : L2.St → XK} {l : Expr} {ops : List CmpOp} {rs : List Expr} {p : Pos} (g : Gx X a T G cx k sc blk W) (hz : ∀ z, (z = l ∨ z ∈ rs) → PE X z (tE X.K a W (evE cx G sc blk z))) : PT X (.Compare l ops rs p) (tT X.K a W (xBool (evE cx G sc blk (.Compare l ops rs p)))) := by
  unfold evE
  match ops, rs with
  | [o], [r] =>
    dsimp only
    split
    · rename_i h
      exact s_cmpT g.units h (hz l (.inl rfl)) (hz r (.inr (by simp)))
    · exact s_badT
  | [o, o'], [r, s] =>
    dsimp only
    split
    · rename_i h
      rw [Bool.and_eq_true] at h
      exact s_chainT g.units h.1 h.2 (hz l (.inl rfl)) (hz r (.inr (by simp))) (hz s (.inr (by simp)))
    · exact s_badT
  | [], _ => exact s_badT
  | [_], [] => exact s_badT
  | [_], _ :: _ :: _ => exact s_badT
  | [_, _], [] => exact s_badT
  | [_, _], [_] => exact s_badT
  | [_, _], _ :: _ :: _ :: _ => exact s_badT
  | _ :: _ :: _ :: _, _ => exact s_badT
mutual
theorem sE : ∀ (e : Expr) {X : Cx} {sc : Scope} {blk : Bool} {W : L2.St → XK}, Gx X a T G cx k sc blk W → PE X e (tE X.K a W (evE cx G sc blk e)) := by
  intro e X sc blk W g
  unfold evE
  split
  · exact s_int
  · exact s_bl
  · exact s_str
  · exact s_non
  · rename_i x p
    split
    · rename_i i hx
      split
      · rename_i hv
        obtain ⟨v1, v2, v3⟩ := visOf g.scp hv
        exact s_var (g.sym x _ hx) v1 v2 v3
      · exact s_bad
    · rename_i d hx
      split
      · rename_i hv
        obtain ⟨v1, v2, v3⟩ := gloOf g.scp hv
        obtain ⟨v, u, h1, h2, h3⟩ := g.sym x _ hx
        exact s_cst v1 h1 h2 h3 v2
      · exact s_bad
    · rename_i ds hx
      split
      · rename_i hv
        obtain ⟨v1, v2, v3⟩ := gloOf g.scp hv
        obtain ⟨t, h1, h2, h3⟩ := g.sym x _ hx
        exact s_cst (v := .ref t) v1 h1 rfl (fun ρ H => .ktup h2 (Reps.strs ds)) v2
      · exact s_bad
    · exact s_bad
  · rename_i es k2 p
    exact s_tup (sL es g)
  · rename_i es p
    exact s_fz (s_lst (sL es g))
  · exact s_dict
  · rename_i l o r p
    exact s_fz (s_bin (sE l g) (sE r g))
  · rename_i e p
    exact s_not (sE e g)
  · rename_i e p
    exact s_neg (sE e g)
  · rename_i e es p
    exact sAnd es g (sE e g)
  · rename_i e es p
    exact sOr es g (sE e g)
  · rename_i t m n p
    exact s_if (sT t g) (sE m g) (sE n g)
  · rename_i l o r p
    split
    · rename_i h
      exact s_cmp g.units h (sE l g) (sE r g)
    · exact s_bad
  · rename_i l o o' r s p
    split
    · rename_i h
      rw [Bool.and_eq_true] at h
      exact s_chain g.units h.1 h.2 (sE l g) (sE r g) (sE s g)
    · exact s_bad
  · rename_i o f p
    split
    · rename_i h
      exact s_fld h (fun c hc => g.sta.noat c f hc) (sE o g)
    · exact s_bad
  · rename_i o lo hi p2 p
    exact s_fz (s_slc (sE o g) (sO lo g) (sO hi g))
  · rename_i o lo hi st p2 p
    exact s_fz (s_stp (sE o g) (sO lo g) (sO hi g) (s_part (sE st g)))
  · rename_i v1 v2 rest p
    exact s_join (sF (v1 :: v2 :: rest) g)
  · rename_i elt tg it ifs asy tg1 it1 ifs1 asy1 scope p
    split
    · rename_i h
      obtain ⟨h1, h2, h3, h4, h5⟩ := h
      subst h1
      subst h2
      exact s_fz ((pe_lc2 g.calm g.nd (sI it g tg (isTup tg) rfl) (blkOk_by (by rw [g.nm, g.scp]; exact h3)) (fun i h => h) (fun s H C cl fp => sG tg (g.blk s H scope cl C fp) (own_ok cx sc scope)) (fun s H C cl fp => sC ifs (g.blk s H scope cl C fp))
        (fun s H C cl fp => sI it1 (g.blk s H scope cl C fp) tg1 (isTup tg1) rfl) (fun s H C cl fp => sG tg1 (g.blk s H scope cl C fp) (own_ok cx sc scope)) (fun s H C cl fp => sC ifs1 (g.blk s H scope cl C fp)) (fun s H C cl fp => sE elt (g.blk s H scope cl C fp)) (hs := fold_of h4) (hs1 := fun _ x => fold_of h5 x)).imp fun σ H Q h => comp2_read h)
    · exact s_bad
  · rename_i o i p _ _
    split
    · rename_i h
      exact s_ix g.units h (sE o g) (sE i g)
    · exact s_bad
  · rename_i elt tg it ifs asy scope p
    split
    · rename_i h
      obtain ⟨h1, h2, h3⟩ := h
      subst h1
      refine s_fz (s_comp g.calm g.nd (blkOk_by (by rw [g.nm, g.scp]; exact h2)) h3 (sI it g tg (isTup tg) rfl) (fun s H C cl fp => ?_) (fun s H C cl fp => ?_) (fun s H C cl fp => ?_))
      · exact sG tg (g.blk s H scope cl C fp) (own_ok cx sc scope)
      · exact sC ifs (g.blk s H scope cl C fp)
      · exact sE elt (g.blk s H scope cl C fp)
    · exact s_bad
  · rename_i x p args kws pos
    split
    · rename_i h
      rw [Bool.and_eq_true] at h
      exact s_fz (s_callN g h.1 h.2 (fun e r he => by subst he; exact sE e g) (sP args g) (sL args g) (sK kws g))
    · exact s_bad
  · rename_i o m apos args kws cpos
    split
    · rename_i h
      rw [Bool.and_eq_true, Bool.and_eq_true, Bool.and_eq_true] at h
      exact s_fz (s_callM g h.1.1.1 h.1.1.2 h.2 (of_decide_eq_true h.1.2) (fun e r he => by subst he; exact sE e g) (sE o g) (sL args g) (sK kws g))
    · exact s_bad
  · exact s_bad
termination_by e => (sizeOf e, 0)
theorem sP : ∀ (es : List Expr) {X : Cx} {sc : Scope} {blk : Bool} {W : L2.St → XK}, Gx X a T G cx k sc blk W → PreOk X a W sc k blk cx.lam es (evP cx G sc blk es) := by
  intro es X sc blk W g
  unfold evP
  split
  · rename_i y q e1 e2 p
    refine .zip (fun h => by rw [Bool.and_eq_true, Bool.and_eq_true] at h; exact ⟨h.1.1, h.1.2, h.2⟩) (fun h => ?_)
    rw [Bool.and_eq_true, Bool.and_eq_true] at h
    exact s_cons h.1.2 (sE e1 g) (s_cons h.2 (sE e2 g) s_nil)
  · rename_i y q e p
    exact .rng (fun h => by rw [Bool.and_eq_true] at h; exact h) (sE e g)
  · rename_i o m apos cpos
    exact .itm (fun h => by rw [Bool.and_eq_true] at h; exact h) (sE o g)
  · rename_i elt tg it ifs asy scope spos
    refine .sets fun hok hgl hmg q p2 => ?_
    rw [Bool.and_eq_true, Bool.and_eq_true] at hok
    obtain ⟨⟨h1, h2⟩, h3⟩ := hok
    obtain rfl := of_decide_eq_true h1
    refine s_lenSet (x := "len") hgl hmg g.calm g.nd (blkOk_by (by rw [g.nm, g.scp]; exact h2)) h3 (sI it g tg (isTup tg) rfl) (fun s H C cl fp => ?_) (fun s H C cl fp => ?_) (fun s H C cl fp => ?_)
    · exact sG tg (g.blk s H scope cl C fp) (own_ok cx sc scope)
    · exact sC ifs (g.blk s H scope cl C fp)
    · exact sE elt (g.blk s H scope cl C fp)
  · rename_i params body scope lpos
    cases blk with
    | true => exact .lam (fun h => by simp at h) (fun h => by simp at h)
    | false =>
      refine .lam (fun h => ?_) (fun h A outer s H E f c' hr hg => ?_)
      · simp only [Bool.and_eq_true, Bool.not_false, and_true] at h
        exact ⟨h.1.1, rfl, h.1.2, h.2⟩
      · exact sE body (g.lamG A outer s H E f c' hr hg)
  · exact .no
termination_by es => (sizeOf es, 0)
theorem sL : ∀ (es : List Expr) {X : Cx} {sc : Scope} {blk : Bool} {W : L2.St → XK}, Gx X a T G cx k sc blk W → PA X es (tL X.K a W (evL cx G sc blk es)) := by
  intro es X sc blk W g
  unfold evL
  split
  · exact s_nil
  · rename_i e r
    split
    · rename_i h
      exact s_cons h (sE e g) (sL r g)
    · exact s_badL
termination_by es => (sizeOf es, 0)
theorem sF : ∀ (es : List Expr) {X : Cx} {sc : Scope} {blk : Bool} {W : L2.St → XK}, Gx X a T G cx k sc blk W → PJs X a W es (evF cx G sc blk es) := by
  intro es X sc blk W g
  unfold evF
  split
  · exact .nil
  · rename_i e c p r
    refine .cons ?_ (sF r g)
    split
    · rename_i h
      subst h
      exact s_fmt (sE e g)
    · exact s_bad
  · rename_i s r
    exact .cons s_str (sF r g)
  · rename_i e r _ _
    exact .cons s_bad (sF r g)
termination_by es => (sizeOf es, 0)
theorem sK : ∀ (es : List Keyword) {X : Cx} {sc : Scope} {blk : Bool} {W : L2.St → XK}, Gx X a T G cx k sc blk W → PK X es (tL X.K a W (evK cx G sc blk es)) := by
  intro es X sc blk W g
  unfold evK
  split
  · exact s_knil
  · rename_i nm e p r
    exact s_kcons (sE e g) (sK r g)
termination_by es => (sizeOf es, 0)
theorem sAnd : ∀ (es : List Expr) {X : Cx} {sc : Scope} {blk : Bool} {W : L2.St → XK} {e : Expr} {m : Exp} {pos : Pos}, Gx X a T G cx k sc blk W → PE X e (tE X.K a W m) → PE X (.BoolOp .And (e :: es) pos) (tE X.K a W (evAnd cx G sc blk m es)) := by
  intro es X sc blk W e m pos g h
  unfold evAnd
  split
  · exact s_and0 h
  · rename_i b r
    exact s_and h (sAnd r g (sE b g))
termination_by es => (sizeOf es, 0)
theorem sOr : ∀ (es : List Expr) {X : Cx} {sc : Scope} {blk : Bool} {W : L2.St → XK} {e : Expr} {m : Exp} {pos : Pos}, Gx X a T G cx k sc blk W → PE X e (tE X.K a W m) → PE X (.BoolOp .Or (e :: es) pos) (tE X.K a W (evOr cx G sc blk m es)) := by
  intro es X sc blk W e m pos g h
  unfold evOr
  split
  · exact s_or0 h
  · rename_i b r
    exact s_or h (sOr r g (sE b g))
termination_by es => (sizeOf es, 0)
theorem sT : ∀ (e : Expr) {X : Cx} {sc : Scope} {blk : Bool} {W : L2.St → XK}, Gx X a T G cx k sc blk W → PT X e (tT X.K a W (evT cx G sc blk e (evE cx G sc blk e))) := by
  intro e X sc blk W g
  have h0 := sE e g
  unfold evT
  split
  · rename_i e p
    exact s_notT (sT e g)
  · rename_i e es p
    exact (sAndT es g (sT e g)).pt
  · rename_i e es p
    exact (sOrT es g (sT e g)).pt
  · rename_i l ops rs p
    have hz : ∀ z, (z = l ∨ z ∈ rs) → PE X z (tE X.K a W (evE cx G sc blk z)) := fun z hz => by
      have h1 : sizeOf z < sizeOf (Expr.Compare l ops rs p) := by
        rcases hz with rfl | hz
        · simp
          omega
        · have := List.sizeOf_lt_of_mem hz
          simp
          omega
      exact sE z g
    exact cmpT g hz
  · subst_vars
    exact s_tru (tru_tree trivial) h0
  · subst_vars
    exact s_tru (tru_tree trivial) h0
  · subst_vars
    exact s_tru (tru_tree trivial) h0
  · subst_vars
    exact s_tru (tru_tree trivial) h0
  · subst_vars
    exact s_tru (tru_tree trivial) h0
  · exact s_badT
termination_by e => (sizeOf e, 1)
theorem sAndT : ∀ (es : List Expr) {X : Cx} {sc : Scope} {blk : Bool} {W : L2.St → XK} {e : Expr} {m : Tst} {pos : Pos}, Gx X a T G cx k sc blk W → PT X e (tT X.K a W m) → PW X (.BoolOp .And (e :: es) pos) (tT X.K a W (evAndT cx G sc blk m es)) := by
  intro es X sc blk W e m pos g h
  unfold evAndT
  split
  · exact s_and1 h
  · rename_i b r
    exact s_andT h (sAndT r g (sT b g))
termination_by es => (sizeOf es, 0)
theorem sOrT : ∀ (es : List Expr) {X : Cx} {sc : Scope} {blk : Bool} {W : L2.St → XK} {e : Expr} {m : Tst} {pos : Pos}, Gx X a T G cx k sc blk W → PT X e (tT X.K a W m) → PW X (.BoolOp .Or (e :: es) pos) (tT X.K a W (evOrT cx G sc blk m es)) := by
  intro es X sc blk W e m pos g h
  unfold evOrT
  split
  · exact s_or1 h
  · rename_i b r
    exact s_orT h (sOrT r g (sT b g))
termination_by es => (sizeOf es, 0)
theorem sO : ∀ (e : Option Expr) {X : Cx} {sc : Scope} {blk : Bool} {W : L2.St → XK}, Gx X a T G cx k sc blk W → PO X e (tO X.K a W (evO cx G sc blk e)) := by
  intro e X sc blk W g
  unfold evO
  split
  · exact s_no
  · rename_i e
    exact s_part (sE e g)
termination_by e => (sizeOf e, 0)
theorem sC : ∀ (es : List Expr) {X : Cx} {sc : Scope} {W : L2.St → XK}, Gx X a T G cx k sc true W → PTs X es (tT X.K a W (evC cx G sc es)) := by
  intro es X sc W g
  unfold evC
  split
  · exact ⟨fun pins s σ H Q I ⟨ρ, η, env, rel, er, h⟩ => pts_nil.run pins s σ H Q I (h ρ H (Ext.refl _ _) rel)⟩
  · rename_i e
    exact pts_one (sT e g)
  · exact ⟨fun pins s σ H Q I ⟨ρ, η, env, rel, er, h⟩ => h.elim⟩
termination_by es => (sizeOf es, 0)
theorem sI : ∀ (e : Expr) {X : Cx} {sc : Scope} {blk : Bool} {W : L2.St → XK} (_ : Gx X a T G cx k sc blk W) (tg : Expr) (tup : Bool), isTup tg = tup → PI X tg e (tI X.K a W (evI cx G sc blk tup e (evE cx G sc blk e))) := by
  intro e X sc blk W g tg tup ht
  have h0 := sE e g
  unfold evI
  split
  · rename_i x p as ks pos
    split
    · rename_i u hx
      split
      · rename_i h
        rw [Bool.and_eq_true] at h
        obtain ⟨v1, v2, v3⟩ := gloOf g.scp h.1
        obtain ⟨e1, hm⟩ := g.sym x _ hx
        subst e1
        exact s_irng1 v1 hm h.2 (sE u g)
      · exact s_ibad
    · rename_i u v hx
      split
      · rename_i h
        rw [Bool.and_eq_true, Bool.and_eq_true] at h
        obtain ⟨v1, v2, v3⟩ := gloOf g.scp h.1.1
        obtain ⟨e1, hm⟩ := g.sym x _ hx
        subst e1
        exact s_irng2 v1 hm h.1.2 h.2 (sE u g) (sE v g)
      · exact s_ibad
    · rename_i u hx
      split
      · rename_i h
        rw [Bool.and_eq_true, Bool.and_eq_true] at h
        obtain ⟨v1, v2, v3⟩ := gloOf g.scp h.1.1
        obtain ⟨e1, hm⟩ := g.sym x _ hx
        subst e1
        have ht2 : isTup tg = true := ht.trans h.2
        cases tg <;> first
          | exact s_ienum v1 hm h.1.2 (sE u g)
          | cases ht2
      · exact s_ibad
    · rename_i u v hx
      split
      · rename_i h
        rw [Bool.and_eq_true, Bool.and_eq_true, Bool.and_eq_true] at h
        obtain ⟨v1, v2, v3⟩ := gloOf g.scp h.1.1.1
        obtain ⟨e1, hm⟩ := g.sym x _ hx
        subst e1
        have ht2 : isTup tg = true := ht.trans h.2
        cases tg <;> first
          | exact s_izip v1 hm h.1.1.2 h.1.2 (sE u g) (sE v g)
          | cases ht2
      · exact s_ibad
    · subst_vars
      exact s_ival h0
  · subst_vars
    exact s_ival h0
termination_by e => (sizeOf e, 1)
theorem sG : ∀ (e : Expr) {X : Cx} {sc : Scope} {blk : Bool} {W : L2.St → XK} {vs : List Nat}, Gx X a T G cx k sc blk W → OkV cx sc blk vs → PG X e (tG X.K a vs (evG cx G sc blk e)) := by
  intro e X sc blk W vs g hv
  unfold evG
  split
  · rename_i x p
    split
    · rename_i i hx
      split
      · rename_i hl
        obtain ⟨l1, l2⟩ := locOf g.scp g.fnl hl
        exact s_gslot g.nd (g.sym x _ hx) (hv x i hx hl) l1 l2
      · exact s_gbad
    · exact s_gbad
  · rename_i x px y py ps k2 p
    split
    · rename_i i j hx hy
      split
      · rename_i hl
        rw [Bool.and_eq_true] at hl
        obtain ⟨l1, l2⟩ := locOf g.scp g.fnl hl.1
        obtain ⟨l3, l4⟩ := locOf g.scp g.fnl hl.2
        split
        · exact s_gstar g.calm (s_gslot g.nd (g.sym x _ hx) (hv x i hx hl.1) l1 l2) (s_gslot g.nd (g.sym y _ hy) (hv y j hy hl.2) l3 l4)
        · exact s_gstarF g.calm (s_gslot g.nd (g.sym x _ hx) (hv x i hx hl.1) l1 l2) (s_gslot g.nd (g.sym y _ hy) (hv y j hy hl.2) l3 l4)
      · exact s_gbad
    · exact s_gbad
  · rename_i es k2 p _
    split
    · rename_i h
      exact s_gtup g.calm h (sGs es g hv h)
    · exact s_gbad
  · rename_i o f p
    split
    · rename_i h
      exact s_gfld (fun c hc => g.sta.noat c f hc) (sE o g)
    · exact s_gbad
  · rename_i o i p
    split
    · rename_i h
      exact s_gix g.units h (sE o g) (sE i g)
    · exact s_gbad
  · exact s_gbad
termination_by e => (sizeOf e, 0)
theorem sGs : ∀ (es : List Expr) {X : Cx} {sc : Scope} {blk : Bool} {W : L2.St → XK} {vs : List Nat}, Gx X a T G cx k sc blk W → OkV cx sc blk vs → es.all noStar = true → PGs X es (tGs X.K a vs (evGs cx G sc blk es)) := by
  intro es X sc blk W vs g hv hs
  unfold evGs
  split
  · exact s_gnil
  · rename_i e r
    rw [List.all_cons, Bool.and_eq_true] at hs
    exact s_gcons hs.1 (sG e g hv) (sGs r g hv hs.2)
termination_by es => (sizeOf es, 0)
end
end
end En
end

section
set_option maxRecDepth 100000
set_option maxHeartbeats 8000000
/-! ET: statements' theorem. -/
namespace En
open PySem PySem.Spec PyProof.Rows L2
section
variable {a : Ad} {T : Tb} {G : Gst} {cx : Cc} {k : Nat}
theorem Gx.tr {X : Cx} {sc : Scope} {W W' : L2.St → XK} (g : Gx X a T G cx k sc false W) (pn : List (Addr × Obj)) (xe : Value → Shared → Prop) (tk : L2N.Takes (X.tr pn xe) (wx W')) (po : PassesOwn (model X.prog X.w) X.A X.env xe) : Gx (X.tr pn xe) a T G cx k sc false W' where
  scp := g.scp
  nm := g.nm
  nd := g.nd
  calm := g.calm
  room := g.room
  grd := g.grd
  tk := tk
  fnl := g.fnl
  sym := fun x s h => by
    have := g.sym x s h
    cases s <;> exact this
  fns := g.fns
  fnk := g.fnk
  sta := g.sta
  bi := g.bi
  bm := g.bm
  stk := g.stk
  po := fun _ => po
  sub := g.sub
  isc := g.isc
  lam := g.lam
theorem all_ok (X : Cx) {sc : Scope} {blk : Bool} {W : L2.St → XK} (g : Gx X a T G cx k sc blk W) : OkV cx sc blk (List.range X.N.length) := fun x i hx _ => by
  have h : X.N[i]? = some x := g.sym x _ hx
  exact List.mem_range.mpr (List.getElem?_eq_some_iff.mp h).1
theorem hds_of {X : Cx} {sc : Scope} {W : L2.St → XK} (g : Gx X a T G cx k sc false W) : ∀ {hs : List ExceptHandler} {l : List (List Nat × Stm)}, evHs cx sc hs = some l → Hds X a G hs l
  | [], l, h => by
    cases h
    exact .nil
  | .ExceptHandler e nm suite p :: r, l, h => by
    unfold evHs at h
    split at h
    · rename_i hz; cases hz
    · rename_i e' suite' p' r' hz
      cases hz
      split at h
      · rename_i c s l' h1 h2 h3
        cases h
        unfold excOf at h1
        split at h1
        · rename_i x q
          split at h1
          · rename_i hg
            split at h1
            · rename_i c' hx
              cases h1
              obtain ⟨v1, v2, v3⟩ := gloOf g.scp hg
              exact .cons ⟨v1, v2, .inl (g.sym x _ hx).1⟩ h2 (hds_of g h3)
            · cases h1
          · cases h1
        · cases h1
      · cases h
    · cases h
theorem s_parAll {X : Cx} {sc : Scope} {W : L2.St → XK} {ts vs : List Expr} {kt k2 : Nat} {p p2 pos : Pos} {names : List Str} {gt : Tgts} {l : Lst} (g : Gx X a T G cx k sc false W) (hl : PA X vs (tL X.K a W l)) (h1 : evPar sc ts vs = some names) (h2 : slotsOf cx names = some gt) :
    PS X (.Assign [.Tuple ts kt p] (.Tuple vs k2 p2) pos) (tS X.K a W (sPar l gt)) := by
  unfold evPar at h1
  split at h1
  · rename_i x px y py u v
    split at h1
    · rename_i hx hy
      split at h1
      · rename_i hc
        cases h1
        simp only [Bool.and_eq_true, Bool.not_eq_true', decide_eq_true_eq] at hc
        obtain ⟨⟨⟨⟨⟨c1, c2⟩, c3⟩, c4⟩, c5⟩, c6⟩ := hc
        unfold slotsOf at h2
        split at h2
        · rename_i i t hi ht
          cases h2
          unfold slotsOf at ht
          split at ht
          · rename_i j t2 hj ht2
            cases ht
            cases ht2
            exact s_par2 g.scp g.calm g.nd (g.sym x _ hi) (g.sym y _ hj) hx hy c1 c2 c3 c4 c5 c6 hl
          · cases ht
        · cases h2
      · cases h1
    · cases h1
  · rename_i x px y py z pz u v w
    split at h1
    · rename_i hx hy hz
      split at h1
      · rename_i hc
        cases h1
        simp only [Bool.and_eq_true, Bool.not_eq_true', decide_eq_true_eq] at hc
        obtain ⟨⟨⟨⟨⟨⟨⟨⟨⟨c1, c2⟩, c3⟩, c4⟩, c5⟩, c6⟩, c7⟩, c8⟩, c9⟩, c10⟩ := hc
        unfold slotsOf at h2
        split at h2
        · rename_i i t hi ht
          cases h2
          unfold slotsOf at ht
          split at ht
          · rename_i j t2 hj ht2
            cases ht
            unfold slotsOf at ht2
            split at ht2
            · rename_i l t3 hl3 ht3
              cases ht2
              cases ht3
              exact s_par3 g.scp g.calm g.nd (g.sym x _ hi) (g.sym y _ hj) (g.sym z _ hl3) hx hy hz c1 c2 c3 c4 c5 c6 c7 c8 c9 c10 hl
            · cases ht2
          · cases ht
        · cases h2
      · cases h1
    · cases h1
  · cases h1
theorem s_asgAll {X : Cx} {sc : Scope} {W : L2.St → XK} {tg e : Expr} {pos : Pos} (g : Gx X a T G cx k sc false W) (ho : okTg tg = true) (hw : swNone sc tg e = true) (hn : okName cx sc tg = true) (hc : notComp e = true ∨ swCase sc tg e pos.line = true ∨ isName tg = false) (fb : Bool) : PS X (.Assign [tg] e pos) (tS X.K a W (sAsg (evE (cx.z fb) G sc false e) (evG cx G sc false tg))) := by
  have gz := g.z fb
  rcases hc with hc | hc | hc
  · exact s_asg g.scp (.inl hc) ho hw (sE e gz) (sG tg g (all_ok X g))
  · unfold swCase at hc
    split at hc
    · rename_i elt gs scope cpos
      split at hc
      · rename_i x q
        have hsw : swCase sc (.Name x q) (.ListComp elt gs scope cpos) pos.line = true := hc
        have bad : ∀ gs', (∀ env η, evE (cx.z fb) G sc false (.ListComp elt gs' scope cpos) env η = .bad) → PS X (.Assign [.Name x q] (.ListComp elt gs' scope cpos) pos) (tS X.K a W (sAsg (evE (cx.z fb) G sc false (.ListComp elt gs' scope cpos)) (evG cx G sc false (.Name x q)))) := fun gs' hm => ⟨fun pins s σ H D I ⟨ρ, η, env, rel, er, h⟩ => by
          unfold sAsg at h
          rw [hm] at h
          exact h.elim⟩
        match gs, hsw with
        | [], hsw => exact bad _ fun _ _ => by rw [evE] <;> first | rfl | simp
        | _ :: _ :: _ :: _, hsw => exact bad _ fun _ _ => by rw [evE] <;> first | rfl | simp
        | [⟨tg2, it, ifs, asy⟩, ⟨tg1, it1, ifs1, asy1⟩], hsw =>
          by_cases hcond : asy = 0 ∧ asy1 = 0 ∧ blkC (cx.z fb).N sc scope (ownOf (cx.z fb) scope) = true ∧ notSet it = true ∧ notSet it1 = true
          · have e1 : evE (cx.z fb) G sc false (.ListComp elt [⟨tg2, it, ifs, asy⟩, ⟨tg1, it1, ifs1, asy1⟩] scope cpos) = fzIf (cx.z fb).fz (xComp2 ((ownOf (cx.z fb) scope).map (·.2)) ((ownOf (cx.z fb) scope).map (·.2)) (evI (cx.z fb) G sc false (isTup tg2) it (evE (cx.z fb) G sc false it)) (evG (cx.z fb) G (relS scope sc) true tg2) (evC (cx.z fb) G (relS scope sc) ifs) (evI (cx.z fb) G (relS scope sc) true (isTup tg1) it1 (evE (cx.z fb) G (relS scope sc) true it1)) (evG (cx.z fb) G (relS scope sc) true tg1) (evC (cx.z fb) G (relS scope sc) ifs1) (evE (cx.z fb) G (relS scope sc) true elt)) := by
              rw [evE, if_pos hcond]
            obtain ⟨h1, h2, h3, h4, h5⟩ := hcond
            subst h1
            subst h2
            unfold okName at hn
            dsimp only at hn
            split at hn
            · rename_i i hx
              have e2 : evG cx G sc false (.Name x q) = gSlot i := by
                rw [evG, hx]
                simp only [hn, if_true]
              rw [e1, e2]
              have hz : X.env.scope.names.lookup x = some .local ∧ (q.line == cpos.line) = true ∧ (scope.names.any fun (n, k) => n == x && (k == .local || k == .cell)) = false := by
                rw [g.scp]
                unfold swCase at hsw
                dsimp only at hsw
                cases hx : sc.names.lookup x with
                | none => rw [hx] at hsw; simp at hsw
                | some k =>
                  rw [hx] at hsw
                  cases k <;> simp at hsw
                  refine ⟨rfl, by simpa using hsw.1, ?_⟩
                  simpa using hsw.2
              obtain ⟨hl, z2, z3⟩ := hz
              refine ⟨fun pins s σ H T I h => ?_⟩
              refine (ps_setLc2 g.calm g.nd (g.sym x _ hx) hl (sw_true I.ok.kind hl z2 z3) (sI it gz tg2 (isTup tg2) rfl) (blkOk_by (by rw [g.nm, g.scp]; exact h3)) (fun i h => h) (fun s H C cl fp => sG tg2 (gz.blk s H scope cl C fp) (own_ok (cx.z fb) sc scope)) (fun s H C cl fp => sC ifs (gz.blk s H scope cl C fp))
                (fun s H C cl fp => sI it1 (gz.blk s H scope cl C fp) tg1 (isTup tg1) rfl) (fun s H C cl fp => sG tg1 (gz.blk s H scope cl C fp) (own_ok (cx.z fb) sc scope)) (fun s H C cl fp => sC ifs1 (gz.blk s H scope cl C fp)) (fun s H C cl fp => sE elt (gz.blk s H scope cl C fp)) (hs := fold_of h4) (hs1 := fun _ x => fold_of h5 x) (te := tE X.K a WF (evE (cx.z fb) G (relS scope sc) true elt)) (g := tG X.K a ((ownOf (cx.z fb) scope).map (·.2)) (evG (cx.z fb) G (relS scope sc) true tg2)) (tt := tT X.K a WF (evC (cx.z fb) G (relS scope sc) ifs)) (wi1 := tI X.K a WF (evI (cx.z fb) G (relS scope sc) true (isTup tg1) it1 (evE (cx.z fb) G (relS scope sc) true it1))) (g1 := tG X.K a ((ownOf (cx.z fb) scope).map (·.2)) (evG (cx.z fb) G (relS scope sc) true tg1)) (tt1 := tT X.K a WF (evC (cx.z fb) G (relS scope sc) ifs1))).run pins s σ H T I ?_
              refine asg_read (xs := [i]) (fun Q z => comp2_read (fz_read z)) (fun v σ H Q ⟨ρ, η, env, d, rel, er, rp, z⟩ => ?_) h
              exact z ρ H _ (Ext.refl _ _) rel (er.set i rp) (wipe_set List.mem_cons_self)
            · cases hn
          · exact bad _ fun _ _ => by rw [evE, if_neg hcond]; rfl
        | [⟨tg2, it, ifs, asy⟩], hsw =>
          by_cases hcond : asy = 0 ∧ blkC (cx.z fb).N sc scope (ownOf (cx.z fb) scope) = true ∧ notSet it = true
          · have e1 : evE (cx.z fb) G sc false (.ListComp elt [⟨tg2, it, ifs, asy⟩] scope cpos) = fzIf (cx.z fb).fz (xComp ((ownOf (cx.z fb) scope).map (·.2)) (evI (cx.z fb) G sc false (isTup tg2) it (evE (cx.z fb) G sc false it)) (evG (cx.z fb) G (relS scope sc) true tg2) (evC (cx.z fb) G (relS scope sc) ifs) (evE (cx.z fb) G (relS scope sc) true elt)) := by
              rw [evE, if_pos hcond]
            obtain ⟨h1, h2, h3⟩ := hcond
            subst h1
            unfold okName at hn
            dsimp only at hn
            split at hn
            · rename_i i hx
              have e2 : evG cx G sc false (.Name x q) = gSlot i := by
                rw [evG, hx]
                simp only [hn, if_true]
              rw [e1, e2]
              refine s_setc g.scp (g.sym x _ hx) hsw g.calm g.nd (blkOk_by (by rw [g.nm, g.scp]; exact h2)) h3 (sI it gz tg2 (isTup tg2) rfl) (fun s H C cl fp => ?_) (fun s H C cl fp => ?_) (fun s H C cl fp => ?_)
              · exact sG tg2 (gz.blk s H scope cl C fp) (own_ok (cx.z fb) sc scope)
              · exact sC ifs (gz.blk s H scope cl C fp)
              · exact sE elt (gz.blk s H scope cl C fp)
            · cases hn
          · exact bad _ fun _ _ => by rw [evE, if_neg hcond]; rfl
      · cases hc
    · cases hc
  · exact s_asg g.scp (.inr hc) ho hw (sE e gz) (sG tg g (all_ok X g))
mutual
theorem sS : ∀ (st : Stmt) {X : Cx} {sc : Scope} {W : L2.St → XK}, Gx X a T G cx k sc false W → PS X st (tS X.K a W (evS cx G sc st)) := by
  intro st X sc W g
  unfold evS
  split
  · exact s_pass
  · exact s_brk
  · exact s_cnt
  · rename_i e p
    split
    · rename_i h
      exact s_exp h (sE e g)
    · exact s_badS
  · exact s_ret (sE _ (g.z _))
  · exact s_retN
  · rename_i t u v p
    exact s_ifS (sT t g) (sSs u g) (sSs v g)
  · rename_i ts k1 p vs k2 p2 p3
    split
    · rename_i gt hz
      cases hp : evPar sc ts vs with
      | none => rw [hp] at hz; cases hz
      | some names =>
        rw [hp] at hz
        exact s_parAll g (sL vs (g.z _)) hp hz
    · split
      · rename_i hw
        exact s_asgAll g rfl hw rfl (.inl rfl) _
      · exact s_badS
  · rename_i tg e pos _
    split
    · rename_i h
      rw [Bool.and_eq_true, Bool.and_eq_true, Bool.and_eq_true, Bool.or_eq_true, Bool.or_eq_true] at h
      obtain ⟨⟨⟨h1, h2⟩, h3⟩, h4⟩ := h
      refine s_asgAll g h1 h2 h3 ?_ _
      rcases h4 with (h4 | h4) | h4
      · exact .inl h4
      · exact .inr (.inl h4)
      · exact .inr (.inr (by simpa using h4))
    · exact s_badS
  · rename_i x q e p
    split
    · rename_i i hx
      split
      · rename_i h
        rw [Bool.and_eq_true] at h
        obtain ⟨l1, l2⟩ := locOf g.scp g.fnl h.1
        exact s_aug g.nd (g.sym x _ hx) l1 l2 (sE e g)
      · exact s_badS
    · exact s_badS
  · rename_i o f q e p
    exact s_augF (fun c hc => g.sta.noat c f hc) (sE o g) (sE e g)
  · rename_i o i q e p
    split
    · rename_i h
      exact s_augI g.units h (sE o g) (sE i g) (sE e g)
    · exact s_badS
  · rename_i tg it body p
    split
    · rename_i h
      exact s_for (g.po rfl) g.calm h (sI it g tg (isTup tg) rfl) (sG tg g (all_ok X g)) (sSs body g)
    · exact s_badS
  · rename_i t body p
    exact s_while G.W (g.po rfl) (sT t g) (sSs body g)
  · rename_i x q m j p2 p3 p4
    split
    · rename_i h
      split
      · rename_i c hx
        obtain ⟨v1, v2, v3⟩ := gloOf g.scp h
        exact s_raise g.calm g.tk v1 (g.sym x _ hx).1 v2 (g.sym x _ hx).2
      · exact s_badS
    · exact s_badS
  · rename_i body h0 hs p
    split
    · rename_i l hl
      exact s_try (g.stk rfl).1 (g.stk rfl).2 g.tk g.sub (fun W' pn xe h1 h2 => sSs body (g.tr pn xe h1 h2)) (hds_of g hl)
    · exact s_badS
  · exact s_badS
termination_by st => (sizeOf st, 0)
theorem sSs : ∀ (sts : List Stmt) {X : Cx} {sc : Scope} {W : L2.St → XK}, Gx X a T G cx k sc false W → PSs X sts (tS X.K a W (evSs cx G sc sts)) := by
  intro sts X sc W g
  unfold evSs
  split
  · exact s_snil
  · rename_i s r
    exact s_scons (sS s g) (sSs r g)
termination_by sts => (sizeOf sts, 0)
end
end
end En
end

section
set_option maxRecDepth 100000
set_option maxHeartbeats 4000000
/-! EU: functions: what is left behind a call is tidied; all functions, level by level. -/
noncomputable section
namespace En
open PySem PySem.Spec PyProof.Rows L2

/-! ### functions -/
/-- a def -/
structure Fd where
  x : Str
  qual : Str
  params : Arguments
  body : List Stmt
  sc : Scope
  ps : List Str
  cx : Cc
  tidy : Bool
def finF (r : RS) : R D := match r with
  | .nxt _ η => .ok .non η
  | .ret d η => .ok d η
  | .exc c _ η => .exc c η
  | _ => .bad
def startE (N : List Str) (ds : List D) : Ev := ds.map some ++ List.replicate (N.length - ds.length) none
def runFd (G : Gst) (f : Fd) (ds : List D) (η : Hv) : R D :=
  let r := finF (evSs f.cx G f.sc f.body (startE f.cx.N ds) η)
  if f.tidy then frz η r else r
noncomputable def sem (G : Gst) (fs : Nat → Option Fd) : Nat → Nat → List D → Hv → R D
  | 0, _, _, _ => .bad
  | n + 1, f, ds, η => match fs f with
    | some d => runFd { G with F := sem G fs n } d ds η
    | none => .bad
/-- the world: what the top has laid, as the evaluator wants it -/
structure Wld (P : Program) (w : World) (K : PySem.W.Frag) (mg : Str → Option Value) (base : Heap) (a : Ad) (T : Tb) (G : Gst) (fs : Nat → Option Fd) : Prop where
  fn : ∀ f d, fs f = some d → (∃ dvs kws, FunD K d.x d.qual d.params d.body d.sc dvs kws (T.fa f) (T.fd f)) ∧ T.ps f = d.ps ∧ FnScope d.cx.N d.ps d.sc
  lam : ∀ f d, fs f = some d → d.cx.lam = true → ∃ c Pt, (T.fd f).code = .ref c ∧ LamX.TabB base mg c Pt ∧ (Pt, (d.qual ++ ".<locals>.") ++ "<lambda>") ∈ a.C.T ∧ ∀ p ∈ a.C.T, p.1 = Pt → p.2 = (d.qual ++ ".<locals>.") ++ "<lambda>"
  sym : ∀ f d, fs f = some d → ∀ X : Cx, X.K = K → X.mg = mg → X.N = d.cx.N → ∀ x s, d.cx.tab.lookup x = some s → SymOk X a T x s
  has : ∀ f n ds, G.dfl f n = some ds → (fs f).isSome = true
  hask : ∀ f n ks g, G.kwd f n ks = some g → (fs f).isSome = true
  sta : Sta K a T G
  bi : ∀ X' : Cx, X'.calm = true → X'.A.units + 65 < cLine → X'.A.guards = some [] → ∀ b, b ≠ .range → BiOk X' a b (G.B b)
  bm : ∀ X' : Cx, X'.A.units + 65 < cLine → ∀ t m, G.mok t m = true → MtOk X' a t m (G.M t m)
  sub : ∀ c d, c < G.nx → d < G.nx → PySem.W.exmOne K (.ref (a.X c)) (.ref (a.X d)) = some (G.sub c d)
  isc : ∀ c ρ η H d v b, Rel K a.C ρ η H → Rep K ρ H d v → G.isc c d η = some b → ∃ t, TyX K H v t ∧ PySem.W.kitOne K t (.ref (a.C c)) = some b
section
variable {P : Program} {w : World} {K : PySem.W.Frag} {mg : Str → Option Value} {base : Heap} {a : Ad} {T : Tb} {G : Gst} {fs : Nat → Option Fd}
theorem start_env {N : List Str} {ρ : List Addr} {H : Hp} {ds : List D} {vs : List V} (r : Reps K ρ H ds vs) : EnvR K ρ H (startE N ds) (L2.start N vs) := by
  have hl := r.length
  unfold startE L2.start
  refine ⟨by simp [hl], fun i d h => ?_⟩
  by_cases hi : i < ds.length
  · rw [List.getElem?_append_left (by simpa using hi), List.getElem?_map] at h
    cases q : ds[i]? with
    | none => rw [q] at h; cases h
    | some x =>
      rw [q] at h
      cases h
      obtain ⟨v, h1, h2⟩ := r.get q
      refine ⟨v, ?_, h2⟩
      rw [List.getElem?_append_left (by rw [List.length_map, ← hl]; exact hi), List.getElem?_map, h1]
      rfl
  · rw [List.getElem?_append_right (by simpa using hi), List.getElem?_replicate] at h
    split at h <;> cases h
theorem fin_of {ρ : List Addr} {H : Hp} {E : XK} {Q : VK} {r : RS} (h : Out K a (fun _ => E) [] ρ H (finF r) Q) : OutS K a (fun _ => E) ρ H r { nx := fun _ H' => Q .non H', rt := Q } := by
  cases r with
  | nxt env η => exact fun ρ' H' σ' e r _ => h ρ' H' .non e r .non
  | ret d η => exact fun ρ' H' v e r p => h ρ' H' v e r p
  | exc c env η => exact fun ρ' H' σ' e r _ => h ρ' H' e r
  | brk env η => exact h.elim
  | cnt env η => exact h.elim
  | bad => exact h.elim
theorem spF_len {F : List D → Hv → R D} {n : Nat} : ∀ vs H Q E, spF K a F n vs H Q E → vs.length = n := fun vs H Q E ⟨ρ, η, ds, h1, _, h2, _⟩ => by rw [← h2.length]; exact h1
/-- every function, at every level -/
theorem levels (Wd : Wld P w K mg base a T G fs) : ∀ (n f : Nat) (d : Fd), fs f = some d → FnG P w K mg base (L2N.CX P w) (4 * n) (T.fa f) (T.fd f) (T.ps f) (spF K a (sem G fs n f) (T.ps f).length)
  | 0, f, d, h => ⟨fun _ _ _ _ _ ⟨ρ, η, ds, _, _, _, h⟩ => h.elim⟩
  | n + 1, f, d, h => by
    obtain ⟨⟨dvs, kws, F⟩, e1, S⟩ := Wd.fn f d h
    have hlam := Wd.lam f d h
    rw [e1]
    obtain ⟨oc, od, dV, kV, doc, pm, an, cdv, ct, osl, e2, lk, hcd, _, _⟩ := F.ex
    rw [e2] at lk hlam ⊢
    refine ⟨fun {A outer s H args us vs Q E} hr0 hgd e0 hb hv ⟨ρ, η, ds, hl, rel, rp, ho⟩ => LamX.run_ofS lk hcd S hr0 e0 hb hv (by rw [← rp.length]; exact hl) fun hr => ⟨tS K a (fun _ => E) (evSs d.cx { G with F := sem G fs n } d.sc d.body), ?_, ?_⟩⟩
    · have g : Gx (cxOf (L2N.CX P w) P w K mg base d.cx.N d.qual d.sc (T.fa f) cdv A outer s H E) a T { G with F := sem G fs n } d.cx (4 * n) d.sc false (fun _ => E) := {
        scp := rfl
        nm := rfl
        nd := S.nd
        calm := rfl
        room := Room.mono (show Room (4 * n + 3) _ from hr) (by omega)
        grd := hgd
        tk := L2N.takes_of rfl rfl rfl rfl
        fnl := fun _ _ => rfl
        sym := fun x s hx => Wd.sym f d h _ rfl rfl rfl x s hx
        fns := fun f' n' ds' hd => by
          obtain ⟨d', hd'⟩ := Option.isSome_iff_exists.mp (Wd.has f' n' ds' hd)
          exact levels Wd n f' d' hd'
        fnk := fun f' n' ks' g' hd => by
          obtain ⟨d', hd'⟩ := Option.isSome_iff_exists.mp (Wd.hask f' n' ks' g' hd)
          exact levels Wd n f' d' hd'
        sta := ⟨Wd.sta.keep, Wd.sta.kwd, Wd.sta.meth, Wd.sta.init, Wd.sta.noat⟩
        bi := Wd.bi
        bm := Wd.bm
        stk := fun _ => ⟨rfl, rfl⟩
        po := fun _ => passes_of (K := fun e s'' => L2N.CX P w outer H s E e s'') rfl
        sub := Wd.sub
        isc := Wd.isc
        lam := fun _ hl => by
          obtain ⟨c, Pt, h1, h2, h3, h4⟩ := hlam hl
          exact ⟨(show Room (4 * n + 3) _ from hr), c, Pt, h2, h1, h3, h4⟩ }
      exact sSs d.body g
    · refine ⟨ρ, η, _, rel, start_env rp, fin_of ?_⟩
      unfold sem at ho
      rw [h] at ho
      dsimp only at ho
      unfold runFd at ho
      dsimp only at ho
      split at ho
      · exact frz_of' rel ho
      · exact ho
end
end En
end

section
set_option maxRecDepth 100000
set_option maxHeartbeats 4000000
/-! EV: methods of built-in types by values. -/
namespace En
open PySem PySem.Spec PyProof.Rows L2
def appM (d : D) (ds : List D) (η : Hv) : R D := match d, ds with
  | .ref i, [x] => (match η[i]? with
    | some (.lst xs) => if xs.length < sizeLine then .ok .non (η.set i (.lst (xs ++ [x]))) else .bad
    | _ => .bad)
  | _, _ => .bad
def popM (d : D) (ds : List D) (η : Hv) : R D := match d, ds with
  | .ref i, [.int k] => (match η[i]? with
    | some (.lst xs) => if -(2 ^ 63) ≤ k ∧ k < 2 ^ 63 then (match seqIndex? k xs.length with
      | some j => (match xs[j]? with
        | some y => .ok y (η.set i (.lst (xs.eraseIdx j)))
        | none => .bad)
      | none => .bad) else .bad
    | _ => .bad)
  | _, _ => .bad
def idxM (d : D) (ds : List D) (η : Hv) : R D := match ds with
  | [e] => (match py η d, py η e with
    | some (.list xs), some x => if SeqAt.shaped (.list xs) && SeqAt.shaped x then (match xs.findIdx? (fun z => PyData.eqv z x) with
      | some j => okI j η
      | none => .bad) else .bad
    | _, _ => .bad)
  | _ => .bad
def cntM (d : D) (ds : List D) (η : Hv) : R D := match ds with
  | [e] => (match py η d, py η e with
    | some (.list xs), some x => if SeqAt.shaped (.list xs) && SeqAt.shaped x then okI (xs.countP fun z => PyData.eqv z x) η else .bad
    | _, _ => .bad)
  | _ => .bad
def getM (d : D) (ds : List D) (η : Hv) : R D := match dctOf η d, ds with
  | some kvs, [k] => (match keyD k with
    | some k => .ok ((getK kvs k).getD .non) η
    | none => .bad)
  | some kvs, [k, x] => (match keyD k with
    | some k => .ok ((getK kvs k).getD x) η
    | none => .bad)
  | _, _ => .bad
def setdM (d : D) (ds : List D) (η : Hv) : R D := match d, ds with
  | .ref i, [k, x] => (match η[i]? with
    | some (.dct kvs) => if kvs.length < sizeLine then (match keyD k with
      | some k => (match getK kvs k with
        | some y => .ok y η
        | none => .ok x (η.set i (.dct (putKD kvs k x))))
      | none => .bad) else .bad
    | _ => .bad)
  | _, _ => .bad
def mtF (t : String) (m : Str) : D → List D → Hv → R D :=
  if t = "list" ∧ m = "append" then appM
  else if t = "list" ∧ m = "pop" then popM
  else if t = "list" ∧ m = "index" then idxM
  else if t = "list" ∧ m = "count" then cntM
  else if t = "dict" ∧ m = "get" then getM
  else if t = "dict" ∧ m = "setdefault" then setdM
  else fun _ _ _ => .bad
def mtOkB (t : String) (m : Str) : Bool := decide (t = "list" ∧ m = "append") || decide (t = "list" ∧ m = "pop") || decide (t = "list" ∧ m = "index") || decide (t = "list" ∧ m = "count") || decide (t = "dict" ∧ m = "get") || decide (t = "dict" ∧ m = "setdefault")
section
variable {X : Cx} {a : Ad}
theorem Rep.noRef {K : PySem.W.Frag} {ρ : List Addr} {H : Hp} {d : D} {v : V} {ds : List PyData} (h : Dp K H v (.list ds)) : ∃ q, v = .ref q := by
  cases h
  exact ⟨_, rfl⟩
theorem app_ok2 : OpM X.K a appM rAppend := by
  intro W σ ρ η H d v ds vs Q rel pd pds h
  unfold appM at h
  split at h
  · rename_i i x
    split at h
    · rename_i xs q
      obtain ⟨c, h⟩ := if_bad h
      obtain ⟨p, us, rfl, hp, h1, h2⟩ := rel.lst q pd
      obtain ⟨y, rfl, py⟩ := pds.one
      have ex : Ext ρ H ρ (upd H p (.lst (us ++ [y]))) := Ext.put (List.mem_of_getElem? hp)
      exact ⟨p, us, y, rfl, rfl, h1, by rw [← h2.length]; exact c, h ρ _ _ ex (rel.put (o := .lst (xs ++ [x])) hp ⟨_, upd_same, (h2.app (.cons py .nil)).mono ex⟩) .non⟩
    · exact h.elim
  · exact h.elim
theorem pop_ok2 : OpM X.K a popM rPopAt := by
  intro W σ ρ η H d v ds vs Q rel pd pds h
  unfold popM at h
  split at h
  · rename_i i k
    split at h
    · rename_i xs q
      obtain ⟨c, h⟩ := if_bad h
      obtain ⟨p, us, rfl, hp, h1, h2⟩ := rel.lst q pd
      obtain ⟨y, rfl, py⟩ := pds.one
      split at h
      · rename_i j qj
        split at h
        · rename_i z qz
          obtain ⟨u, h3, h4⟩ := h2.get qz
          have ex : Ext ρ H ρ (upd H p (.lst (us.eraseIdx j))) := Ext.put (List.mem_of_getElem? hp)
          exact ⟨p, us, k, j, u, rfl, by rw [py.intv], h1, c.1, c.2, by rw [← h2.length]; exact qj, h3, h ρ _ _ ex (rel.put (o := .lst (xs.eraseIdx j)) hp ⟨_, upd_same, (h2.eraseIdx j).mono ex⟩) (h4.mono ex)⟩
        · exact h.elim
      · exact h.elim
    · exact h.elim
  · exact h.elim
theorem idx_ok2 : OpM X.K a idxM (rIndexD X.K) := by
  intro W σ ρ η H d v ds vs Q rel pd pds h
  unfold idxM at h
  split at h
  · rename_i e
    obtain ⟨y, rfl, pe⟩ := pds.one
    split at h
    · rename_i xs x q1 q2
      by_cases c : (SeqAt.shaped (.list xs) && SeqAt.shaped x) = true
      · rw [if_pos c] at h
        rw [Bool.and_eq_true] at c
        split at h
        · rename_i j qj
          have hd := py_of rel pd q1
          obtain ⟨p, rfl⟩ := Rep.noRef (K := X.K) (ρ := ρ) (H := H) (d := d) hd
          obtain ⟨hj, e1, e2⟩ := List.findIdx?_eq_some_iff_getElem.mp qj
          refine ⟨p, y, x, xs, j, xs[j], rfl, rfl, hd, py_of rel pe q2, c.1, c.2, List.getElem?_eq_getElem hj, e1, fun m z hm hz => ?_, Out.okv rel h (.int _)⟩
          have hml : m < xs.length := by omega
          rw [List.getElem?_eq_getElem hml] at hz
          have := e2 m hm
          rw [Option.some.inj hz] at this
          simpa using this
        · exact h.elim
      · rw [if_neg c] at h
        exact h.elim
    · exact h.elim
  · exact h.elim
/-- l.count(x): how many are equal -/
def rCntD (K : PySem.W.Frag) : V → List V → Hp → VK → Prop := fun x xs H Q => ∃ (q : Addr) (y : V) (d : PyData) (ds : List PyData), x = V.ref q ∧ xs = [y] ∧ Dp K H (V.ref q) (.list ds) ∧ Dp K H y d ∧ SeqAt.shaped (.list ds) = true ∧ SeqAt.shaped d = true ∧ Q (.int ((ds.countP fun z => PyData.eqv z d) : Nat)) H
theorem mt_cntD (hu : X.A.units + 65 < cLine) : MtR X "list.count" (rCntD X.K) := by
  intro pins s σ H x xs v us Q I rx rxs h
  obtain ⟨q, y, d, ds, rfl, rfl, hl, hy, sl, sd, h9⟩ := h
  cases rx
  obtain ⟨uy, rfl, ry⟩ := rxs.one
  obtain ⟨bs, r1⟩ := Dp.reads I d y uy hy ry
  have lay : PyData.canLayAll0 ds = true := SeqAt.canLay_of_shaped sl
  have room : X.A.units + 1 + min (PyData.depthAll ds) d.depth < cLine := room_in_shaped sd hu
  cases hl with
  | lst hs ha =>
    obtain ⟨its, rv, ⟨⟨cls, dd, data, sls⟩, n, ho, hc, hdn, hdt⟩, hlen⟩ := I.list hs
    simp only at hc hdt
    subst hc hdt
    obtain ⟨as, ra⟩ := Dp.readsAll I ds _ its ha rv
    have hmap : its.map (SeqAt.readOf s.heap) = ds := SeqAt.readsAll_map ds its as lay ra
    refine call_meets PySem.F.slot_list_count ⟨_, ho, rfl⟩ PySem.F.entry_list_count (PySem.F.args_list_count_2 _ _)
      (SeqAt.list_countAt q its.toArray n dd sls uy (fun u => PyData.eqv (SeqAt.readOf s.heap u) d)) ⟨ho, SeqAt.items_eqAt (vs := its.toArray) (show ReadsAll s.heap its.toArray.toList ds as from ra) r1 lay (SeqAt.canLay_of_shaped sd) room, ?_⟩
    refine ⟨.int ((ds.countP fun z => PyData.eqv z d) : Nat), H, I.tok _, ⟨s.toks, ?_⟩, h9⟩
    rw [← hmap, List.countP_map]
    rfl
theorem cnt_ok2 : OpM X.K a cntM (rCntD X.K) := by
  intro W σ ρ η H d v ds vs Q rel pd pds h
  unfold cntM at h
  split at h
  · rename_i e
    obtain ⟨y, rfl, pe⟩ := pds.one
    split at h
    · rename_i xs x q1 q2
      by_cases c : (SeqAt.shaped (.list xs) && SeqAt.shaped x) = true
      · rw [if_pos c] at h
        rw [Bool.and_eq_true] at c
        have hd := py_of rel pd q1
        obtain ⟨p, rfl⟩ := Rep.noRef (K := X.K) (ρ := ρ) (H := H) (d := d) hd
        exact ⟨p, y, x, xs, rfl, rfl, hd, py_of rel pe q2, c.1, c.2, Out.okv rel h (.int _)⟩
      · rw [if_neg c] at h
        exact h.elim
    · exact h.elim
  · exact h.elim
/-! ### dicts -/
def rGetK : V → List V → Hp → VK → Prop := fun x xs H Q => ∃ (q : Addr) (kv : List (Key × V)) (k : Key), x = .ref q ∧ H q = some (.dK kv) ∧ ((xs = [kV k] ∧ Q ((valV kv k).getD .non) H) ∨ ∃ y, xs = [kV k, y] ∧ Q ((valV kv k).getD y) H)
theorem relV_kV {k : Key} : RelV (kV k) (match k with
    | .inl i => Value.int i 0
    | .inr s => Value.str s 0) := by
  cases k with
  | inl i => exact ⟨0, rfl⟩
  | inr s => exact ⟨0, rfl⟩
theorem mt_getK (hu : X.A.units + 65 < cLine) : MtR X "dict.get" rGetK := by
  intro pins s σ H x xs v us Q I rx rxs h
  obtain ⟨q, kv, k, rfl, hd, h⟩ := h
  cases rx
  have g : DGet H q (kV k) (valV kv k) := DGet.k hd
  rcases h with ⟨rfl, h⟩ | ⟨y, rfl, h⟩
  · obtain ⟨u, rfl, ru⟩ := rxs.one
    exact d_get1 (by omega) I g ru fun w s' I' rw' => ⟨_, H, I', rw', h⟩
  · obtain ⟨u, w, rfl, ru, rw0⟩ := vals2 rxs
    exact d_get2 (by omega) I g ru rw0 fun w s' I' rw' => ⟨_, H, I', rw', h⟩
theorem getK_of {K : PySem.W.Frag} {ρ : List Addr} {H : Hp} {kvs : List (Key × D)} {kv : List (Key × V)} {k : Key} {d : D} {v : V} (e : kvs.map (·.1) = kv.map (·.1)) (r : Reps K ρ H (kvs.map (·.2)) (kv.map (·.2))) (h : Rep K ρ H d v) : Rep K ρ H ((getK kvs k).getD d) ((valV kv k).getD v) := by
  obtain ⟨h1, h2⟩ := valV_of k e r
  cases q : getK kvs k with
  | none =>
    rw [h2 q]
    exact h
  | some x =>
    obtain ⟨y, h3, h4⟩ := h1 x q
    rw [h3]
    exact h4
theorem get_ok2 : OpM X.K a getM rGetK := by
  intro W σ ρ η H d v ds vs Q rel pd pds h
  unfold getM at h
  split at h
  · rename_i kvs k qd
    obtain ⟨y, rfl, pe⟩ := pds.one
    split at h
    · rename_i k' qk
      obtain ⟨_, p, kv, _, _, _, rfl, h1, h2, h3⟩ := rel.dctOf qd pd
      exact ⟨p, kv, k', rfl, h1, .inl ⟨by rw [keyV qk pe], Out.okv rel h (getK_of h2 h3 .non)⟩⟩
    · exact h.elim
  · rename_i kvs k x qd
    obtain ⟨y, z, rfl, pe, pz⟩ := pds.two
    split at h
    · rename_i k' qk
      obtain ⟨_, p, kv, _, _, _, rfl, h1, h2, h3⟩ := rel.dctOf qd pd
      exact ⟨p, kv, k', rfl, h1, .inr ⟨z, by rw [keyV qk pe], Out.okv rel h (getK_of h2 h3 pz)⟩⟩
    · exact h.elim
  · exact h.elim
def rSetdK : V → List V → Hp → VK → Prop := fun x xs H Q => ∃ (q : Addr) (kv : List (Key × V)) (k : Key) (y : V), x = .ref q ∧ H q = some (.dK kv) ∧ xs = [kV k, y] ∧ kv.length < sizeLine ∧ (∀ v, valV kv k = some v → Q v H) ∧ (valV kv k = none → Q y (upd H q (.dK (putK kv k y))))
theorem mt_setdK : MtR X "dict.setdefault" rSetdK := by
  intro pins s σ H x xs v us Q I rx rxs h
  obtain ⟨q, kv, k, y, rfl, hd, rfl, hl, h1, h2⟩ := h
  cases rx
  obtain ⟨u, w, rfl, ru, rw0⟩ := vals2 rxs
  exact d_setd I hd ru rw0 hl (fun v hv w' s' I' r' => ⟨v, H, I', r', h1 v hv⟩) fun hn w' s' I' r' => ⟨y, _, I', r', h2 hn⟩
theorem setd_ok2 : OpM X.K a setdM rSetdK := by
  intro W σ ρ η H d v ds vs Q rel pd pds h
  unfold setdM at h
  split at h
  · rename_i i k x
    obtain ⟨y, z, rfl, pk, px⟩ := pds.two
    split at h
    · rename_i kvs q
      obtain ⟨c, h⟩ := if_bad h
      split at h
      · rename_i k' qk
        obtain ⟨p, kv, rfl, hp, h1, h2, h3⟩ := rel.dct q pd
        have hl := congrArg List.length h2
        rw [List.length_map, List.length_map] at hl
        obtain ⟨g1, g2⟩ := valV_of k' h2 h3
        refine ⟨p, kv, k', z, rfl, h1, by rw [keyV qk pk], by omega, fun w hw => ?_, fun hn => ?_⟩
        · split at h
          · rename_i y' qg
            obtain ⟨w2, e1, e2⟩ := g1 y' qg
            rw [hw] at e1
            cases e1
            exact Out.okv rel h e2
          · rename_i qg
            rw [g2 qg] at hw
            cases hw
        · split at h
          · rename_i y' qg
            obtain ⟨w2, e1, e2⟩ := g1 y' qg
            rw [hn] at e1
            cases e1
          · obtain ⟨e1, e2⟩ := putK_reps k' px h2 h3
            have ex : Ext ρ H ρ (upd H p (.dK (putK kv k' z))) := Ext.put (List.mem_of_getElem? hp)
            exact h ρ _ _ ex (rel.put (o := .dct (putKD kvs k' x)) hp ⟨_, upd_same, e1, e2.mono ex⟩) (px.mono ex)
      · exact h.elim
    · exact h.elim
  · exact h.elim
/-- the methods that are there -/
theorem mt_all (X' : Cx) (hu : X'.A.units + 65 < cLine) (t : String) (m : Str) (h : mtOkB t m = true) : MtOk X' a t m (mtF t m) := by
  unfold mtOkB at h
  simp only [Bool.or_eq_true, decide_eq_true_eq] at h
  rcases h with ((((h | h) | h) | h) | h) | h
  · obtain ⟨rfl, rfl⟩ := h
    exact ⟨_, _, PySem.F.plainAttrs_list, PySem.F.slot_list_append, PySem.F.type_list_append, mt_append, app_ok2 (X := X')⟩
  · obtain ⟨rfl, rfl⟩ := h
    exact ⟨_, _, PySem.F.plainAttrs_list, PySem.F.slot_list_pop, PySem.F.type_list_pop, mt_popAt, pop_ok2 (X := X')⟩
  · obtain ⟨rfl, rfl⟩ := h
    exact ⟨_, _, PySem.F.plainAttrs_list, PySem.F.slot_list_index, PySem.F.type_list_index, mt_indexD hu, idx_ok2 (X := X')⟩
  · obtain ⟨rfl, rfl⟩ := h
    exact ⟨_, _, PySem.F.plainAttrs_list, PySem.F.slot_list_count, PySem.F.type_list_count, mt_cntD hu, cnt_ok2 (X := X')⟩
  · obtain ⟨rfl, rfl⟩ := h
    exact ⟨_, _, PySem.F.plainAttrs_dict, PySem.F.slot_dict_get, PySem.F.type_dict_get, mt_getK hu, get_ok2 (X := X')⟩
  · obtain ⟨rfl, rfl⟩ := h
    exact ⟨_, _, PySem.F.plainAttrs_dict, PySem.F.slot_dict_setdefault, PySem.F.type_dict_setdefault, mt_setdK, setd_ok2 (X := X')⟩
end
end En
end

section
set_option maxRecDepth 100000
set_option maxHeartbeats 4000000
/-! EW: sorted, min, max over data. -/
namespace En
open PySem PySem.Spec PyProof.Rows L2
def encD (η : Hv) (d : D) : PyData := (py η d).getD .none
def isTupD : PyData → Bool
  | .tuple (_ :: _) => true
  | _ => false
def isPlainD : PyData → Bool
  | .none => false
  | .tuple _ => false
  | _ => true
/-- what can be sorted: alike data, not deep -/
def sortC (ys : List PyData) : Bool := (ys.all fun x => ys.all fun y => PySem.W.alike x y) && (ys.all isTupD || ys.all isPlainD) && (ys.all fun x => decide (x.depth ≤ 60))
def sortF (ds : List D) (η : Hv) : R D := match ds with
  | [d] => (match lstOf η d with
    | some xs => if (xs.all fun x => (py η x).isSome) && sortC (xs.map (encD η)) then newL (xs.mergeSort fun x y => !PySem.W.dataLt (encD η y) (encD η x)) η else .bad
    | none => .bad)
  | _ => .bad
/-- sorted(xs): bs the items with their data -/
def rSortD (K : PySem.W.Frag) : List V → Hp → VK → Prop := fun us H Q => ∃ (q : Addr) (bs : List (D × V)) (enc : D → PyData), us = [V.ref q] ∧ SqL K H q (bs.map (·.2)) ∧ (∀ b ∈ bs, Dp K H b.2 (enc b.1)) ∧ sortC (bs.map fun b => enc b.1) = true ∧
  ∀ p, H p = none → Q (.ref p) (upd H p (.lst ((bs.mergeSort fun x y => !PySem.W.dataLt (enc y.1) (enc x.1)).map (·.2))))
section
variable {X : Cx} {a : Ad}
theorem each_of2 {K : PySem.W.Frag} {ρ : List Addr} {H : Hp} : ∀ {bs : List (D × V)} {us : List Value}, Vals (bs.map (·.2)) us → PySem.W.EachIs (fun u (b : D × V) => RelV b.2 u) us bs
  | [], us, r => by
    cases r
    exact .nil
  | b :: bs, us, r => by
    cases r with
    | cons h t => exact .cons h (each_of2 (K := K) (ρ := ρ) (H := H) t)
theorem each_back : ∀ {bs : List (D × V)} {us : List Value}, PySem.W.EachIs (fun u (b : D × V) => RelV b.2 u) us bs → Vals (bs.map (·.2)) us
  | [], _, .nil => .nil
  | _ :: _, _, .cons h t => .cons h (each_back t)
theorem cr_sortD (hu : X.A.units + 65 < cLine) : CallR X (.builtin "sorted") (rSortD X.K) := by
  intro pins s σ H us vs Q I r h
  obtain ⟨q, bs, enc, rfl, hs, hd, hc, hq⟩ := h
  obtain ⟨its, rv, hl, hz⟩ := I.list hs
  rw [Vals.ref1 r]
  unfold sortC at hc
  simp only [Bool.and_eq_true, List.all_eq_true, Bool.or_eq_true] at hc
  obtain ⟨⟨c1, c2⟩, c3⟩ := hc
  have e := each_of2 (K := X.K) (ρ := []) (H := H) rv
  have er : PySem.W.EachIs (fun u (b : D × V) => ∃ as, Reads s.heap u (enc b.1) as) its bs := by
    have main : ∀ {bs : List (D × V)} {us : List Value}, PySem.W.EachIs (fun u (b : D × V) => RelV b.2 u) us bs → (∀ b ∈ bs, Dp X.K H b.2 (enc b.1)) → PySem.W.EachIs (fun u (b : D × V) => ∃ as, Reads s.heap u (enc b.1) as) us bs := fun {bs us} e => by
      induction e with
      | nil => exact fun _ => .nil
      | cons h t ih => exact fun hb => .cons (Dp.reads I _ _ _ (hb _ List.mem_cons_self) h) (ih fun b hm => hb b (List.mem_cons_of_mem _ hm))
    exact main e hd
  have hz2 : bs.length ≤ sizeLine := by rw [List.length_map] at hz; exact hz
  refine PySem.W.sorted_data (enc := fun b : D × V => enc b.1) hl.isList e er (fun d h1 d' h2 => c1 d h1 d' h2) ?_ hz2 (fun b hb => ?_) fun out hlen ho => ?_
  · rcases c2 with c2 | c2
    · refine .inl fun d hm => ?_
      have := c2 d hm
      unfold isTupD at this
      split at this
      · exact ⟨_, _, rfl⟩
      · cases this
    · refine .inr fun d hm => ?_
      have := c2 d hm
      refine ⟨fun z => (by rw [z] at this; cases this), fun xs z => (by rw [z] at this; cases this)⟩
  · have := of_decide_eq_true (c3 (enc b.1) (List.mem_map.mpr ⟨b, hb, rfl⟩))
    show X.A.units + 2 + (enc b.1).depth < cLine
    omega
  · obtain ⟨ep, he'⟩ := PyProof.Rows.sortedAll_at s.heap its out.toArray
    have ho2 : Vals ((bs.mergeSort fun x y => !PySem.W.dataLt (enc y.1) (enc x.1)).map (·.2)) out := each_back ho
    have hlen2 : ((bs.mergeSort fun x y => !PySem.W.dataLt (enc y.1) (enc x.1)).map (·.2)).length ≤ sizeLine := by
      rw [ho2.length, hlen]
      exact hz2
    exact ⟨.ref _, upd H (s.heap.objs.size + 1) (.lst _), I.laid (t' := s.toks) (fun _ _ => PyProof.Rows.sortedAll_old) (Nat.le_succ _) ⟨hlen2, out, ep, ho2, he'⟩, rfl, hq _ (I.hok.fresh (Nat.le_succ _))⟩
theorem Reps.zips {K : PySem.W.Frag} {ρ : List Addr} {H : Hp} : ∀ {ds : List D} {vs : List V}, Reps K ρ H ds vs → ∃ bs : List (D × V), bs.map (·.1) = ds ∧ bs.map (·.2) = vs ∧ ∀ b ∈ bs, Rep K ρ H b.1 b.2
  | _, _, .nil => ⟨[], rfl, rfl, fun b h => by cases h⟩
  | _, _, .cons (d := d) (v := v) h r => by
    obtain ⟨bs, h1, h2, h3⟩ := Reps.zips r
    refine ⟨(d, v) :: bs, by rw [List.map_cons, h1], by rw [List.map_cons, h2], fun b hb => ?_⟩
    rcases List.mem_cons.mp hb with e | hb
    · rw [e]; exact h
    · exact h3 b hb
theorem Reps.unzip {K : PySem.W.Frag} {ρ : List Addr} {H : Hp} : ∀ {bs : List (D × V)}, (∀ b ∈ bs, Rep K ρ H b.1 b.2) → Reps K ρ H (bs.map (·.1)) (bs.map (·.2))
  | [], _ => .nil
  | b :: bs, h => .cons (h b List.mem_cons_self) (Reps.unzip fun x hx => h x (List.mem_cons_of_mem _ hx))
theorem sortF_of (hu : X.A.units + 65 < cLine) : BiOk X a .sorted sortF := by
  refine ⟨_, cr_sortD hu, fun W σ ρ η H ds vs Q rel pd h => ?_⟩
  unfold sortF at h
  split at h
  · rename_i d
    obtain ⟨v, rfl, p⟩ := pd.one
    split at h
    · rename_i xs ql
      obtain ⟨c, h⟩ := if_bad h
      rw [Bool.and_eq_true] at c
      obtain ⟨q, us, rfl, h1, h2⟩ := rel.lstOf ql p
      obtain ⟨bs, rfl, rfl, hb⟩ := h2.zips
      refine ⟨q, bs, encD η, rfl, .inl (.inl h1), fun b hm => ?_, ?_, fun z nz => ?_⟩
      · have h3 := List.all_eq_true.mp c.1 b.1 (List.mem_map.mpr ⟨b, hm, rfl⟩)
        obtain ⟨y, hy⟩ := Option.isSome_iff_exists.mp h3
        have : encD η b.1 = y := by unfold encD; rw [hy]; rfl
        rw [this]
        exact py_of rel (hb b hm) hy
      · have := c.2
        rw [List.map_map] at this
        exact this
      · have e : (bs.map (·.1)).mergeSort (fun x y => !PySem.W.dataLt (encD η y) (encD η x)) = (bs.mergeSort fun x y => !PySem.W.dataLt (encD η y.1) (encD η x.1)).map (·.1) :=
          (List.map_mergeSort (f := fun b : D × V => b.1) (fun x _ y _ => rfl)).symm
        rw [e] at h
        refine Out.newl rel h (Reps.unzip fun b hm => hb b ?_) z nz
        exact (List.mergeSort_perm bs _).mem_iff.mp hm
    · exact h.elim
  · exact h.elim
end
end En
end

section
set_option maxRecDepth 100000
set_option maxHeartbeats 4000000
/-! EX: min, max over data; dict of pairs; the table of built-ins. -/
namespace En
open PySem PySem.Spec PyProof.Rows L2
mutual
/-- what never changes -/
def immD : D → Bool
  | .tup xs => immL xs
  | .lst _ => false
  | .scr _ => false
  | .ref _ => false
  | .exc _ => false
  | _ => true
def immL : List D → Bool
  | [] => true
  | d :: r => immD d && immL r
end
mutual
def ofPy : PyData → D
  | .none => .non
  | .bool b => .bl b
  | .int i => .int i
  | .str s => .str s
  | .tuple xs => .tup (ofPyL xs)
  | _ => .non
def ofPyL : List PyData → List D
  | [] => []
  | x :: r => ofPy x :: ofPyL r
end
mutual
theorem ofPy_imm {rf : Nat → Option PyData} : ∀ (d : D) (x : PyData), immD d = true → pyD rf d = some x → ofPy x = d
  | .non, x, _, h => by cases h; rfl
  | .bl _, x, _, h => by cases h; rfl
  | .int _, x, _, h => by cases h; rfl
  | .str _, x, _, h => by cases h; rfl
  | .tup xs, x, hi, h => by
    unfold pyD at h
    cases q : pyL rf xs with
    | none => rw [q] at h; cases h
    | some ys =>
      rw [q] at h
      cases h
      show D.tup (ofPyL ys) = _
      rw [ofPyL_imm xs ys hi q]
  | .lst _, _, hi, _ => by cases hi
  | .scr _, _, hi, _ => by cases hi
  | .ref _, _, hi, _ => by cases hi
  | .exc _, _, hi, _ => by cases hi
theorem ofPyL_imm {rf : Nat → Option PyData} : ∀ (d : List D) (x : List PyData), immL d = true → pyL rf d = some x → ofPyL x = d
  | [], x, _, h => by cases h; rfl
  | d :: r, x, hi, h => by
    unfold immL at hi
    rw [Bool.and_eq_true] at hi
    unfold pyL at h
    cases q : pyD rf d with
    | none => rw [q] at h; simp at h
    | some y =>
      cases q2 : pyL rf r with
      | none => rw [q, q2] at h; simp at h
      | some ys =>
        rw [q, q2] at h
        cases h
        show ofPy y :: ofPyL ys = _
        rw [ofPy_imm d y hi.1 q, ofPyL_imm r ys hi.2 q2]
end
/-- alike data, none of them None, not deep -/
def bestC (ys : List PyData) : Bool := (ys.all fun x => ys.all fun y => PySem.W.alike x y) && (ys.all fun x => match x with
  | .none => false
  | _ => true) && decide (PyData.depthAll ys ≤ 60)
def bestF (best : PyData → List PyData → PyData) (ds : List D) (η : Hv) : R D := match ds with
  | [d] => (match lstOf η d with
    | some (x :: xs) => if ((x :: xs).all fun y => immD y && (py η y).isSome) && bestC ((x :: xs).map (encD η)) then .ok (ofPy (best (encD η x) (xs.map (encD η)))) η else .bad
    | _ => .bad)
  | _ => .bad
def rBest (K : PySem.W.Frag) (best : PyData → List PyData → PyData) : List V → Hp → VK → Prop := fun us H Q => ∃ (q : Addr) (vs : List V) (y : PyData) (ys : List PyData), us = [V.ref q] ∧ SqL K H q vs ∧ DpAll K H vs (y :: ys) ∧ bestC (y :: ys) = true ∧
  ∀ (i : Nat) (v : V) (d : PyData), vs[i]? = some v → (y :: ys)[i]? = some d → (d = best y ys) → Q v H
section
variable {X : Cx} {a : Ad}
theorem dpAll_get {K : PySem.W.Frag} {H : Hp} : ∀ {vs : List V} {ds : List PyData} {i : Nat} {v : V}, DpAll K H vs ds → vs[i]? = some v → ∃ d, ds[i]? = some d ∧ Dp K H v d
  | _, _, _, _, .nil, h => by simp at h
  | _, _, 0, _, .cons h _, e => by simp at e; subst e; exact ⟨_, rfl, h⟩
  | _, _, i + 1, v, .cons _ t, e => by
    obtain ⟨d, h1, h2⟩ := dpAll_get (i := i) (v := v) t (by simpa using e)
    exact ⟨d, by simpa using h1, h2⟩
theorem bestC_all {ys : List PyData} (h : bestC ys = true) : PySem.W.AlikeAll ys ∧ PyData.depthAll ys ≤ 60 := by
  unfold bestC at h
  simp only [Bool.and_eq_true, List.all_eq_true] at h
  obtain ⟨⟨h1, h2⟩, h3⟩ := h
  refine ⟨⟨h1, fun x hx e => ?_⟩, of_decide_eq_true h3⟩
  have := h2 x hx
  rw [e] at this
  cases this
theorem fold_mem (f : PyData → PyData → Bool) : ∀ (xs : List PyData) (x : PyData), xs.foldl (fun a y => if f y a then y else a) x = x ∨ xs.foldl (fun a y => if f y a then y else a) x ∈ xs
  | [], x => .inl rfl
  | y :: r, x => by
    rw [List.foldl_cons]
    rcases fold_mem f r (if f y x then y else x) with h | h
    · rw [h]
      by_cases c : f y x = true
      · rw [if_pos c]; exact .inr List.mem_cons_self
      · rw [if_neg c]; exact .inl rfl
    · exact .inr (List.mem_cons_of_mem _ h)
theorem minD_mem (y : PyData) (ys : List PyData) : PySem.W.minD y ys ∈ y :: ys := by
  unfold PySem.W.minD
  rcases fold_mem PySem.W.dataLt ys y with h | h
  · rw [h]; exact List.mem_cons_self
  · exact List.mem_cons_of_mem _ h
theorem best_end {pins : List (Addr × Obj)} {σ : L2.St} {H : Hp} {s : Shared} {Q : VK} {vs : List V} {its : List Value} {y m : PyData} {ys : List PyData} (I : Inv X pins σ H s) (rv : Vals vs its) (hd : DpAll X.K H vs (y :: ys)) (ha : PySem.W.AlikeAll (y :: ys)) (hm : m ∈ y :: ys)
    (hq : ∀ (i : Nat) (v : V) (d : PyData), vs[i]? = some v → (y :: ys)[i]? = some d → d = m → Q v H) (i : Nat) (u : Value) (h' : Heap) (tk : Nat) (bs : List Addr) (h1 : its.toArray[i]? = some u) (h2 : Reads h' u m bs) (h3 : ∀ b o, s.heap.get? b = some o → h'.get? b = some o) :
    EP X pins σ Q u { s with heap := h', toks := tk } := by
  have h1 : its[i]? = some u := by simpa using h1
  have hl := rv.length
  have hi : i < vs.length := by rw [hl]; exact (List.getElem?_eq_some_iff.mp h1).1
  obtain ⟨u', e1, ru⟩ := rv.get (i := i) (x := vs[i]) (List.getElem?_eq_getElem hi)
  rw [h1] at e1
  cases e1
  obtain ⟨d, h4, h5⟩ := dpAll_get hd (List.getElem?_eq_getElem hi)
  obtain ⟨as, h6⟩ := Dp.reads I d _ _ h5 ru
  have h7 := PySem.W.reads_keeps h3 h6
  have e : d = m := PySem.W.alike_unique d m u as bs (ha.1 d (List.mem_of_getElem? h4) m hm) h7 h2
  exact ⟨vs[i], H, I.kept h3, ru, hq i _ d (List.getElem?_eq_getElem hi) h4 e⟩
theorem cr_minD (hc : X.calm = true) (hu : X.A.units + 65 < cLine) : CallR X (.builtin "min") (rBest X.K PySem.W.minD) := by
  intro pins s σ H us vs Q I r h
  obtain ⟨q, xs, y, ys, rfl, hs, hd, hb, hq⟩ := h
  obtain ⟨its, rv, hl, hz⟩ := I.list hs
  rw [Vals.ref1 r]
  obtain ⟨as, ra⟩ := Dp.readsAll I (y :: ys) _ its hd rv
  obtain ⟨b1, b2⟩ := bestC_all hb
  refine PySem.W.min_list_data (I.ok.hd hc) hl.isList (show ReadsAll s.heap its.toArray.toList (y :: ys) as from ra) b1 (by omega) fun i u h' tk bs h1 h2 h3 => ?_
  exact best_end I rv hd b1 (minD_mem y ys) hq i u h' tk bs h1 h2 h3
theorem bestF_of {best : PyData → List PyData → PyData} {b : Bi} (hc : CallR X (biV b) (rBest X.K best)) (hm : ∀ y ys, best y ys ∈ y :: ys) : BiOk X a b (bestF best) := by
  refine ⟨_, hc, fun W σ ρ η H ds vs Q rel pd h => ?_⟩
  unfold bestF at h
  split at h
  · rename_i d
    obtain ⟨v, rfl, p⟩ := pd.one
    split at h
    · rename_i x xs ql
      obtain ⟨c, h⟩ := if_bad h
      rw [Bool.and_eq_true] at c
      obtain ⟨q, us, rfl, h1, h2⟩ := rel.lstOf ql p
      have hall := List.all_eq_true.mp c.1
      have he : ∀ z ∈ x :: xs, immD z = true ∧ py η z = some (encD η z) := fun z hz => by
        have := hall z hz
        rw [Bool.and_eq_true] at this
        obtain ⟨w, hw⟩ := Option.isSome_iff_exists.mp this.2
        exact ⟨this.1, by unfold encD; rw [hw]; rfl⟩
      have dps : ∀ {zs : List D} {ws : List V}, (∀ z ∈ zs, py η z = some (encD η z)) → Reps X.K ρ H zs ws → DpAll X.K H ws (zs.map (encD η)) := fun {zs ws} hz r => by
        induction zs generalizing ws with
        | nil => cases r; exact .nil
        | cons z zs ih =>
          cases r with
          | cons h t => exact .cons (py_of rel h (hz z List.mem_cons_self)) (ih (fun w hw => hz w (List.mem_cons_of_mem _ hw)) t)
      refine ⟨q, us, encD η x, xs.map (encD η), rfl, .inl (.inl h1), dps (fun z hz => (he z hz).2) h2, c.2, fun i w d hw hd e => ?_⟩
      obtain ⟨z, hz, rz⟩ := h2.getV hw
      have hd2 : ((x :: xs).map (encD η))[i]? = some d := hd
      rw [List.getElem?_map, hz] at hd2
      have e2 : encD η z = d := by simpa using hd2
      obtain ⟨i1, i2⟩ := he z (List.mem_of_getElem? hz)
      have e3 : ofPy (best (encD η x) (xs.map (encD η))) = z := by
        rw [← e, ← e2]
        exact ofPy_imm z _ i1 i2
      rw [e3] at h
      exact Out.okv rel h rz
    · exact h.elim
  · exact h.elim
/-- one of two -/
def orF (f g : List D → Hv → R D) (ds : List D) (η : Hv) : R D := match f ds η with
  | .bad => g ds η
  | r => r
theorem BiOk.or {b : Bi} {f g : List D → Hv → R D} (h1 : BiOk X a b f) (h2 : BiOk X a b g) : BiOk X a b (orF f g) := by
  obtain ⟨r1, c1, o1⟩ := h1
  obtain ⟨r2, c2, o2⟩ := h2
  refine ⟨_, CallR.or c1 c2, fun W σ ρ η H ds vs Q rel pd h => ?_⟩
  unfold orF at h
  cases q : f ds η with
  | bad => rw [q] at h; exact .inr (o2 W σ ρ η H ds vs Q rel pd h)
  | ok d η1 => rw [q] at h; exact .inl (o1 W σ ρ η H ds vs Q rel pd (by rw [q]; exact h))
  | exc c η1 => rw [q] at h; exact .inl (o1 W σ ρ η H ds vs Q rel pd (by rw [q]; exact h))
/-! ### dict(a list of pairs) -/
def pairK : D → Option (Key × D)
  | .tup [k, d] => (keyD k).map fun k => (k, d)
  | _ => none
def pairsK : List D → Option (List (Key × D))
  | [] => some []
  | d :: r => match pairK d, pairsK r with
    | some x, some xs => some (x :: xs)
    | _, _ => none
def mergeD (kvs : List (Key × D)) : List (Key × D) := kvs.foldl (fun acc kv => putKD acc kv.1 kv.2) []
def dictF (ds : List D) (η : Hv) : R D := match ds with
  | [d] => (match (lstOf η d).bind pairsK with
    | some kvs => .ok (.ref η.length) (η ++ [.dct (mergeD kvs)])
    | none => .bad)
  | _ => .bad
theorem merge_reps {K : PySem.W.Frag} {ρ : List Addr} {H : Hp} : ∀ {kvs : List (Key × D)} {kv : List (Key × V)} {acc : List (Key × D)} {acv : List (Key × V)}, kvs.map (·.1) = kv.map (·.1) → Reps K ρ H (kvs.map (·.2)) (kv.map (·.2)) → acc.map (·.1) = acv.map (·.1) → Reps K ρ H (acc.map (·.2)) (acv.map (·.2)) →
    (kvs.foldl (fun acc kv => putKD acc kv.1 kv.2) acc).map (·.1) = (kv.foldl (fun acc kv => putK acc kv.1 kv.2) acv).map (·.1) ∧ Reps K ρ H ((kvs.foldl (fun acc kv => putKD acc kv.1 kv.2) acc).map (·.2)) ((kv.foldl (fun acc kv => putK acc kv.1 kv.2) acv).map (·.2))
  | [], [], _, _, _, _, h1, h2 => ⟨h1, h2⟩
  | [], _ :: _, _, _, e, _, _, _ => by simp at e
  | _ :: _, [], _, _, e, _, _, _ => by simp at e
  | (k, d) :: r, (k2, v) :: r2, acc, acv, e, rp, h1, h2 => by
    rw [List.map_cons, List.map_cons] at e
    obtain ⟨e1, e2⟩ := List.cons.inj e
    have e1 : k = k2 := e1
    subst e1
    cases rp with
    | cons g1 g2 =>
      obtain ⟨h3, h4⟩ := putK_reps k g1 h1 h2
      exact merge_reps (kvs := r) (kv := r2) e2 g2 h3 h4
theorem pairs_of {K : PySem.W.Frag} {ρ : List Addr} {H : Hp} : ∀ {ds : List D} {vs : List V} {kvs : List (Key × D)}, Reps K ρ H ds vs → pairsK ds = some kvs →
    ∃ (ps : List Addr) (kv : List (Key × V)), vs = ps.map V.ref ∧ Paired (fun p (x : Key × V) => SqT K H p [kV x.1, x.2]) ps kv ∧ kvs.map (·.1) = kv.map (·.1) ∧ Reps K ρ H (kvs.map (·.2)) (kv.map (·.2))
  | _, _, kvs, .nil, h => by
    cases h
    exact ⟨[], [], rfl, .nil, rfl, .nil⟩
  | _, _, kvs, .cons (d := d) (ds := ds) h0 r, h => by
    unfold pairsK at h
    cases q : pairK d with
    | none => rw [q] at h; simp at h
    | some x =>
      cases q2 : pairsK ds with
      | none => rw [q, q2] at h; simp at h
      | some xs =>
        rw [q, q2] at h
        cases h
        obtain ⟨ps, kv, e1, e2, e3, e4⟩ := pairs_of r q2
        unfold pairK at q
        split at q
        · rename_i k0 d0
          obtain ⟨p, vs, rfl, h1, h2⟩ := h0.sqT
          obtain ⟨v1, v2, rfl, r1, r2⟩ := h2.two
          cases qk : keyD k0 with
          | none => rw [qk] at q; cases q
          | some k =>
            rw [qk] at q
            cases q
            refine ⟨p :: ps, (k, v2) :: kv, by rw [e1]; rfl, .cons ?_ e2, congrArg (List.cons k) e3, .cons r2 e4⟩
            rw [keyV qk r1] at h1
            exact h1
        · cases q
theorem dictF_of (hc : X.calm = true) : BiOk X a .dict dictF := by
  refine ⟨_, call_dictP hc, fun W σ ρ η H ds vs Q rel pd h => ?_⟩
  unfold dictF at h
  split at h
  · rename_i d
    obtain ⟨v, rfl, p⟩ := pd.one
    split at h
    · rename_i kvs qb
      cases ql : lstOf η d with
      | none => rw [ql] at qb; cases qb
      | some xs =>
        rw [ql] at qb
        obtain ⟨q, us, rfl, h1, h2⟩ := rel.lstOf ql p
        obtain ⟨ps, kv, rfl, e2, e3, e4⟩ := pairs_of h2 qb
        refine ⟨q, ps, kv, rfl, .inl (.inl h1), e2, fun z nz => ?_⟩
        obtain ⟨m1, m2⟩ := merge_reps (acc := []) (acv := []) e3 e4 rfl .nil
        have e := Ext.alloc (o := .dK (mergeK [] kv)) nz (rel.free nz)
        exact h _ _ _ e (rel.alloc (o := .dct (mergeD kvs)) nz ⟨_, upd_same, m1, m2.mono e⟩) (rep_last rel)
    · exact h.elim
  · exact h.elim
/-! ### bool(x), str(i) -/
def boolF (ds : List D) (η : Hv) : R D := match ds with
  | [.int i] => okB (i != 0) η
  | [.bl b] => okB b η
  | _ => .bad
def strF (ds : List D) (η : Hv) : R D := match ds with
  | [.int i] => if i.natAbs < 2 ^ 64 then .ok (.str (toString i)) η else .bad
  | _ => .bad
theorem boolF_of : BiOk X a .bool boolF := by
  refine ⟨_, call_bool1, fun W σ ρ η H ds vs Q rel pd h => ?_⟩
  unfold boolF at h
  split at h
  · obtain ⟨v, rfl, p⟩ := pd.one
    exact .inl ⟨_, by rw [p.intv], Out.okv rel h (.bl _)⟩
  · obtain ⟨v, rfl, p⟩ := pd.one
    exact .inr ⟨_, by rw [p.blv], Out.okv rel h (.bl _)⟩
  · exact h.elim
theorem strF_of : BiOk X a .str strF := by
  refine ⟨_, call_str_int, fun W σ ρ η H ds vs Q rel pd h => ?_⟩
  unfold strF at h
  split at h
  · rename_i i
    obtain ⟨c, h⟩ := if_bad h
    obtain ⟨v, rfl, p⟩ := pd.one
    refine ⟨i, by rw [p.intv], ?_, Out.okv rel h (.str _)⟩
    by_cases h0 : i.natAbs = 0
    · rw [h0]; decide
    · have := (Nat.log2_lt h0).mpr c
      omega
  · exact h.elim
/-! ### the table -/
def biF : Bi → List D → Hv → R D
  | .len => lenF
  | .tuple => tupleF
  | .list => listF
  | .dict => dictF
  | .int => intF
  | .str => strF
  | .bool => boolF
  | .max => maxF
  | .min => orF minF (bestF PySem.W.minD)
  | .sum => sumF
  | .sorted => sortF
  | .all => allF
  | .any => anyF
  | _ => fun _ _ => .bad
theorem badF_of (b : Bi) : BiOk X a b fun _ _ => .bad := ⟨fun _ _ _ => False, fun _ _ _ _ _ _ _ _ _ h => h.elim, fun _ _ _ _ _ _ _ _ _ _ h => h⟩
theorem bi_all (X' : Cx) (hc : X'.calm = true) (hu : X'.A.units + 65 < cLine) (b : Bi) : BiOk X' a b (biF b) := by
  cases b with
  | len => exact lenF_of
  | tuple => exact tupleF_of
  | list => exact listF_of
  | dict => exact dictF_of hc
  | int => exact intF_of
  | str => exact strF_of
  | bool => exact boolF_of
  | max => exact maxF_of hc
  | min => exact BiOk.or (minF_of hc) (bestF_of (cr_minD hc hu) minD_mem)
  | sum => exact sumF_of hc
  | sorted => exact sortF_of hu
  | all => exact allF_of hc
  | any => exact anyF_of hc
  | _ => exact badF_of _
end
end En
end

section
set_option maxRecDepth 100000
set_option maxHeartbeats 4000000
/-! EY: repr. -/
namespace En
open PySem PySem.Spec PyProof.Rows L2
section
variable {X : Cx} {a : Ad}
theorem cr_repr (hu : X.A.units + 65 < cLine) (hg : X.A.guards = some []) : CallR X (.builtin "repr") (fun xs H Q => ∃ v x, xs = [v] ∧ Dp X.K H v x ∧ reprOk x = true ∧ Q (.str x.shown) H) := by
  intro pins s σ H xs us Q I r h
  obtain ⟨v, x, rfl, hd, ok, q⟩ := h
  obtain ⟨u, rfl, ru⟩ := vals1 r
  unfold reprOk at ok
  simp only [Bool.and_eq_true, Bool.not_eq_true', decide_eq_true_eq] at ok
  obtain ⟨⟨⟨o1, o2⟩, o3⟩, o4⟩ := ok
  have ref : ∀ a : Addr, u = .ref a → wpAny (model X.prog X.w) X.A (call (.builtin "repr") [u]) (EP X pins σ Q) X.xe s := fun b e => by
    obtain ⟨as, rd⟩ := Dp.reads I x v u hd ru
    subst e
    exact repr_of_reads' rd o1 (fun z => by rw [o2] at z; cases z) hg (by omega) (fun _ _ z => z) (fun h' t tk hk => ⟨.str x.shown, H, I.kept hk, ⟨t, rfl⟩, q⟩) o4
  cases hd with
  | non =>
    cases ru
    exact PySem.P.repr_of_none ⟨.str _, H, I.tok _, ⟨_, rfl⟩, q⟩
  | bl b =>
    cases ru
    exact PySem.P.repr_of_bool ⟨.str _, H, I.tok _, ⟨_, rfl⟩, by cases b <;> exact q⟩
  | int i =>
    obtain ⟨t, rfl⟩ := ru
    exact PySem.P.repr_of_int (by simpa [PyData.showable] using o1) ⟨.str _, H, I.tok _, ⟨_, rfl⟩, q⟩
  | str y =>
    obtain ⟨t, rfl⟩ := ru
    exact PySem.P.repr_of_str ⟨.str _, H, I.tok _, ⟨_, rfl⟩, q⟩ o4
  | lst h1 h2 => exact ref _ ru
  | tup h1 h2 => exact ref _ ru
theorem reprF_of (hu : X.A.units + 65 < cLine) (hg : X.A.guards = some []) : BiOk X a .repr reprF := by
  refine ⟨_, cr_repr hu hg, fun W σ ρ η H ds vs Q rel rp h => ?_⟩
  cases rp with
  | nil => exact h.elim
  | cons p1 r1 =>
    cases r1 with
    | cons _ _ => exact h.elim
    | nil =>
      unfold reprF at h
      dsimp only at h
      split at h
      · rename_i x hx
        split at h
        · rename_i ok
          exact ⟨_, x, rfl, py_of rel p1 hx, ok, h ρ H _ (Ext.refl _ _) rel (.str _)⟩
        · exact h.elim
      · exact h.elim
end
/-- the built-ins, repr too -/
def biG : Bi → List D → Hv → R D
  | .repr => reprF
  | b => biF b
theorem bi_allG {a : Ad} (X' : Cx) (hc : X'.calm = true) (hu : X'.A.units + 65 < cLine) (hg : X'.A.guards = some []) (b : Bi) : BiOk X' a b (biG b) := by
  cases b
  case repr => exact reprF_of hu hg
  all_goals exact bi_all X' hc hu _
end En
end

section
set_option maxRecDepth 100000
set_option maxHeartbeats 4000000
/-! FG: methods of texts; sorted of a dict. -/
namespace En
open PySem PySem.Spec PyProof.Rows L2
def strsOf : List D → Option (List Str)
  | [] => some []
  | .str s :: r => (strsOf r).map (s :: ·)
  | _ => none
theorem strsOf_eq : ∀ {ds : List D} {ns : List Str}, strsOf ds = some ns → ds = ns.map D.str
  | [], ns, h => by cases h; rfl
  | .str s :: r, ns, h => by
    unfold strsOf at h
    obtain ⟨x, h1, rfl⟩ := Option.map_eq_some_iff.mp h
    rw [strsOf_eq h1]
    rfl
  | .non :: _, _, h => by cases h
  | .bl _ :: _, _, h => by cases h
  | .int _ :: _, _, h => by cases h
  | .tup _ :: _, _, h => by cases h
  | .lst _ :: _, _, h => by cases h
  | .scr _ :: _, _, h => by cases h
  | .ref _ :: _, _, h => by cases h
  | .exc _ :: _, _, h => by cases h
theorem strsOf_map : ∀ ns : List Str, strsOf (ns.map D.str) = some ns
  | [] => rfl
  | n :: r => by
    show (strsOf (r.map D.str)).map (n :: ·) = _
    rw [strsOf_map r]
    rfl
theorem Reps.strsV {K : PySem.W.Frag} {ρ : List Addr} {H : Hp} : ∀ {ns : List Str} {vs : List V}, Reps K ρ H (ns.map D.str) vs → vs = ns.map V.str
  | [], _, .nil => rfl
  | n :: r, _, .cons h t => by
    rw [h.strv, Reps.strsV t]
    rfl
def splitM (d : D) (ds : List D) (η : Hv) : R D := match d, ds with
  | .str a, [.str b] => if (b.length == 0) = false ∧ a.length + 2 ≤ sizeLine then newL ((Txt.split a b).map D.str) η else .bad
  | _, _ => .bad
def partM (d : D) (ds : List D) (η : Hv) : R D := match d, ds with
  | .str a, [.str b] => if (b.length == 0) = false ∧ a.length ≤ sizeLine then .ok (.tup [.str (Txt.partition a b).1, .str (Txt.partition a b).2.1, .str (Txt.partition a b).2.2]) η else .bad
  | _, _ => .bad
def joinM (d : D) (ds : List D) (η : Hv) : R D := match d, ds with
  | .str a, [e] => (match (seqOf η e).bind strsOf with
    | some ys => if (ys.map (·.length)).sum + ys.length * a.length ≤ 16777216 then .ok (.str (Txt.join a ys)) η else .bad
    | none => .bad)
  | _, _ => .bad
def startM (d : D) (ds : List D) (η : Hv) : R D := match d, ds with
  | .str a, [.str b] => okB (Txt.startswith a b) η
  | _, _ => .bad
def mtG (t : String) (m : Str) : D → List D → Hv → R D :=
  if t = "str" ∧ m = "split" then splitM
  else if t = "str" ∧ m = "partition" then partM
  else if t = "str" ∧ m = "join" then joinM
  else if t = "str" ∧ m = "startswith" then startM
  else mtF t m
def mtOkG (t : String) (m : Str) : Bool := decide (t = "str" ∧ m = "split") || decide (t = "str" ∧ m = "partition") || decide (t = "str" ∧ m = "join") || decide (t = "str" ∧ m = "startswith") || mtOkB t m
section
variable {X : Cx} {a : Ad}
theorem split_ok2 : OpM X.K a splitM (fun x xs H Q => ∃ a b, x = .str a ∧ xs = [.str b] ∧ (b.length == 0) = false ∧ a.length + 2 ≤ sizeLine ∧ rNewStrs (Txt.split a b) H Q) := by
  intro W σ ρ η H d v ds vs Q rel pd pds h
  unfold splitM at h
  split at h
  · rename_i x y
    obtain ⟨u, rfl, py⟩ := pds.one
    obtain ⟨⟨c1, c2⟩, h⟩ := if_bad h
    exact ⟨x, y, pd.strv, by rw [py.strv], c1, c2, fun p np => Out.newl rel h (by
      rw [show (Txt.split x y).map D.str = (Txt.split x y).map D.str from rfl]
      exact Reps.strs _) p np⟩
  · exact h.elim
theorem part_ok2 : OpM X.K a partM (fun x xs H Q => ∃ a b, x = .str a ∧ xs = [.str b] ∧ (b.length == 0) = false ∧ a.length ≤ sizeLine ∧ ∀ p, H p = none → Q (.ref p) (upd H p (.tup [.str (Txt.partition a b).1, .str (Txt.partition a b).2.1, .str (Txt.partition a b).2.2]))) := by
  intro W σ ρ η H d v ds vs Q rel pd pds h
  unfold partM at h
  split at h
  · rename_i x y
    obtain ⟨u, rfl, py⟩ := pds.one
    obtain ⟨⟨c1, c2⟩, h⟩ := if_bad h
    exact ⟨x, y, pd.strv, by rw [py.strv], c1, c2, fun p np => Out.newt rel h (.cons (.str _) (.cons (.str _) (.cons (.str _) .nil))) p np⟩
  · exact h.elim
theorem join_ok2 : OpM X.K a joinM (fun x xs H Q => ∃ a p, ∃ ys : List Str, x = .str a ∧ xs = [.ref p] ∧ (SqL X.K H p (ys.map V.str) ∨ SqT X.K H p (ys.map V.str)) ∧ (ys.map (·.length)).sum + ys.length * a.length ≤ 16777216 ∧ Q (.str (Txt.join a ys)) H) := by
  intro W σ ρ η H d v ds vs Q rel pd pds h
  unfold joinM at h
  split at h
  · rename_i x e
    obtain ⟨u, rfl, pe⟩ := pds.one
    split at h
    · rename_i ys qy
      obtain ⟨c, h⟩ := if_bad h
      obtain ⟨zs, q1, q2⟩ := Option.bind_eq_some_iff.mp qy
      obtain ⟨q, us, rfl, g1, g2⟩ := rel.seqOf q1 pe
      rw [strsOf_eq q2] at g2
      rw [g2.strsV] at g1
      exact ⟨x, q, ys, pd.strv, rfl, g1, c, Out.okv rel h (.str _)⟩
    · exact h.elim
  · exact h.elim
theorem start_ok2 : OpM X.K a startM (fun x xs H Q => ∃ a b, x = .str a ∧ xs = [.str b] ∧ Q (.bl (Txt.startswith a b)) H) := by
  intro W σ ρ η H d v ds vs Q rel pd pds h
  unfold startM at h
  split at h
  · rename_i x y
    obtain ⟨u, rfl, py⟩ := pds.one
    exact ⟨x, y, pd.strv, by rw [py.strv], Out.okv rel h (.bl _)⟩
  · exact h.elim
theorem mt_allG (X' : Cx) (hu : X'.A.units + 65 < cLine) (t : String) (m : Str) (h : mtOkG t m = true) : MtOk X' a t m (mtG t m) := by
  by_cases h1 : t = "str" ∧ m = "split"
  · obtain ⟨rfl, rfl⟩ := h1
    exact ⟨_, _, PySem.F.plainAttrs_str, PySem.F.slot_str_split, PySem.F.type_str_split, mt_split, split_ok2 (X := X')⟩
  by_cases h2 : t = "str" ∧ m = "partition"
  · obtain ⟨rfl, rfl⟩ := h2
    exact ⟨_, _, PySem.F.plainAttrs_str, PySem.F.slot_str_partition, PySem.F.type_str_partition, mt_partition, part_ok2 (X := X')⟩
  by_cases h3 : t = "str" ∧ m = "join"
  · obtain ⟨rfl, rfl⟩ := h3
    exact ⟨_, _, PySem.F.plainAttrs_str, PySem.F.slot_str_join, PySem.F.type_str_join, mt_join, join_ok2 (X := X')⟩
  by_cases h4 : t = "str" ∧ m = "startswith"
  · obtain ⟨rfl, rfl⟩ := h4
    exact ⟨_, _, PySem.F.plainAttrs_str, PySem.F.slot_str_startswith, PySem.F.type_str_startswith, mt_startswith, start_ok2 (X := X')⟩
  unfold mtOkG at h
  simp only [decide_eq_false h1, decide_eq_false h2, decide_eq_false h3, decide_eq_false h4, Bool.false_or] at h
  unfold mtG
  rw [if_neg h1, if_neg h2, if_neg h3, if_neg h4]
  exact mt_all X' hu t m h
/-! ### sorted of a dict whose keys are ints -/
def keysOf : List (Key × D) → Option (List Int)
  | [] => some []
  | (.inl i, _) :: r => (keysOf r).map (i :: ·)
  | _ => none
theorem keysOf_eq : ∀ {kvs : List (Key × D)} {ks : List Int}, keysOf kvs = some ks → kvs.map (·.1) = ks.map Sum.inl
  | [], ks, h => by cases h; rfl
  | (.inl i, d) :: r, ks, h => by
    unfold keysOf at h
    obtain ⟨x, h1, rfl⟩ := Option.map_eq_some_iff.mp h
    rw [List.map_cons, keysOf_eq h1]
    rfl
  | (.inr s, d) :: r, ks, h => by cases h
def leI (i j : Int) : Bool := decide (i ≤ j)
def sortDF (ds : List D) (η : Hv) : R D := match ds with
  | [d] => match (dctOf η d).bind keysOf with
    | some ks => if ks.length ≤ sizeLine then newL ((ks.mergeSort leI).map D.int) η else .bad
    | none => .bad
  | _ => .bad
theorem cr_sortedDI (hcalm : X.calm = true) (hu : X.A.units + 65 < cLine) : CallR X (.builtin "sorted") (fun xs H Q => ∃ (p : Addr) (kvs : List (Key × V)) (ks : List Int), xs = [.ref p] ∧ H p = some (.dK kvs) ∧ kvs.map (·.1) = ks.map Sum.inl ∧ ks.length ≤ sizeLine ∧
    ∀ z, H z = none → Q (.ref z) (upd H z (.lst ((ks.mergeSort leI).map V.int)))) := by
  intro pins s σ H xs us Q I r q
  obtain ⟨p, kvs, ks, rfl, hd, hks, hz, q⟩ := q
  obtain ⟨u, rfl, rx⟩ := vals1 r
  cases rx
  obtain ⟨z, lo, vs, rel, dd⟩ := dk_of I.hok hd
  obtain ⟨ep, hat⟩ := dd.dictAt
  have hkeys : vs.map (·.1) = ks.map Sum.inl := rel.keys.symm.trans hks
  have hl : vs.length = ks.length := by
    have e := congrArg List.length hkeys
    rwa [List.length_map, List.length_map] at e
  refine Calls.call_function_entry PyProof.Rows.kind_sorted PyProof.Rows.plain_sorted PyProof.Rows.entry_sorted (PyProof.Rows.args_sorted1 _) ?_
  unfold Builtin.«sorted»
  refine wpAny_bind (m := checkCount "sorted" 1 1 _) (wpAny_pure (wpAny_bind ?_))
  refine PySem.W.kdu_collect (A := X.A.in1) (PySem.W.kdl_dict (knd := mixKind X.prog X.w) (kvs := vs) (ep := ep) lo) (I.ok.hd hcalm) hat (by rw [hl]; exact hz) fun h' tk acc hk hacc => ?_
  have hal : acc.toList.length = ks.length := by rw [Array.length_toList, hacc.1, hl]
  have hI : IntsAre acc.toList ks := by
    have : ∀ (l : List Value) (ks : List Int), l.length = ks.length → (∀ (j : Nat) (v : Value), l[j]? = some v → ∃ i t, ks[j]? = some i ∧ v = .int i t) → IntsAre l ks := fun l => by
      induction l with
      | nil => intro ks e _; cases ks with | nil => exact .nil | cons _ _ => simp at e
      | cons v l ih =>
        intro ks e h
        cases ks with
        | nil => simp at e
        | cons k ks =>
          obtain ⟨i, t, h1, rfl⟩ := h 0 v rfl
          simp at h1
          subst h1
          exact .cons k t (ih ks (by simpa using e) fun j v e => by simpa using h (j + 1) v (by simpa using e))
    refine this _ _ hal fun j v e => ?_
    obtain ⟨k, x, e1, e2⟩ := hacc.2 j v (by rw [← Array.getElem?_toList]; exact e)
    have e3 : (vs.map (·.1))[j]? = some k := by rw [List.getElem?_map, e1]; rfl
    rw [hkeys, List.getElem?_map] at e3
    obtain ⟨i, e4, rfl⟩ := Option.map_eq_some_iff.mp e3
    have e2 : keyIs (Sum.inl i) v = true := e2
    rcases keyIs_shape e2 with ⟨i', t, ek, ev⟩ | ⟨z, t, ek, ev⟩
    · cases ek
      exact ⟨i, t, e4, ev⟩
    · cases ek
  have ei : ∀ (l : List Value) (ks : List Int), IntsAre l ks → PySem.W.EachIs (fun v (i : Int) => ∃ t, v = Value.int i t) l ks := fun l ks h => by
    induction h with
    | nil => exact .nil
    | cons k t _ ih => exact .cons ⟨t, rfl⟩ ih
  have eo : ∀ {l : List Value} {js : List Int}, PySem.W.EachIs (fun v (i : Int) => ∃ t, v = Value.int i t) l js → Vals (js.map V.int) l := fun {l js} h => by
    induction h with
    | nil => exact .nil
    | cons r _ ih => exact .cons r ih
  have I1 : Inv X pins σ H { s with heap := h', toks := tk } := I.kept hk
  refine wpAny_bind (wpAny_newList ?_ (by rw [hal]; exact hz))
  obtain ⟨hb, eb⟩ : ∃ hb, hb = h'.push (seqObj "list" acc.toList.toArray 0) := ⟨_, rfl⟩
  have hoL : hb.get? h'.objs.size = some (seqObj "list" acc.toList.toArray 0) := by rw [eb]; exact Heap.get?_push_size _ rfl
  show wpAny _ _ _ _ _ { s with heap := h'.push (seqObj "list" acc.toList.toArray 0), toks := tk }
  rw [← eb]
  refine wpAny_bind (wpAny_holding (PySem.W.list_sort_data (s := { s with heap := hb, toks := tk }) (enc := fun i : Int => PyData.int i) hoL (ei _ _ hI) ?_ ?_ ?_ hz (fun b _ => ?_) fun out hlen ho => ?_))
  · have : ∀ (l : List Value) (js : List Int), IntsAre l js → PySem.W.EachIs (fun v (i : Int) => ∃ as, Reads hb v (PyData.int i) as ∧ h'.objs.size ∉ as) l js := fun l js h => by
      induction h with
      | nil => exact .nil
      | cons k t _ ih => exact .cons ⟨[], .int k t, by simp⟩ ih
    exact this _ _ hI
  · intro d hd d' hd'
    obtain ⟨i, _, rfl⟩ := List.mem_map.mp hd
    obtain ⟨j, _, rfl⟩ := List.mem_map.mp hd'
    rfl
  · refine .inr fun d hd => ?_
    obtain ⟨i, _, rfl⟩ := List.mem_map.mp hd
    exact ⟨(fun z => nomatch z), fun xs z => nomatch z⟩
  · show X.A.units + 1 + 1 + 0 < cLine
    omega
  · have e : PySem.W.dataLe false (fun i : Int => PyData.int i) = leI := PySem.W.dataLe_int (fun i : Int => i)
    rw [e] at ho
    obtain ⟨e', he'⟩ := PyProof.Rows.sortedHeap_at (vs := acc.toList) (out := out.toArray) hoL
    refine wpAny_pure ⟨_, rfl, .ref h'.objs.size, upd H h'.objs.size (.lst ((ks.mergeSort leI).map V.int)), I1.laid (t' := tk) (fun b u e => ?_) (Nat.le_refl _) ⟨?_, out, e', eo ho, he'⟩, rfl, q _ (I1.hok.fresh (Nat.le_refl _))⟩
    · have hlt : b < h'.objs.size := Heap.lt_size e
      show (PyProof.Rows.sortedHeap hb h'.objs.size acc.toList out.toArray).get? b = some u
      rw [PyProof.Rows.sortedHeap_old (Nat.ne_of_lt hlt) (by rw [eb, Heap.size_push]; exact Nat.lt_succ_of_lt hlt), eb]
      exact Heap.get?_push_of_some _ e
    · rw [List.length_map, List.length_mergeSort]
      exact hz
theorem sortDF_of (hc : X.calm = true) (hu : X.A.units + 65 < cLine) : BiOk X a .sorted sortDF := by
  refine ⟨_, cr_sortedDI hc hu, fun W σ ρ η H ds vs Q rel pds h => ?_⟩
  unfold sortDF at h
  split at h
  · rename_i d
    obtain ⟨v, rfl, pd⟩ := pds.one
    split at h
    · rename_i ks qk
      obtain ⟨c, h⟩ := if_bad h
      obtain ⟨kvs, q1, q2⟩ := Option.bind_eq_some_iff.mp qk
      obtain ⟨i, p, kv, rfl, _, _, rfl, h1, h2, h3⟩ := rel.dctOf q1 pd
      exact ⟨p, kv, ks, rfl, h1, h2.symm.trans (keysOf_eq q2), c, fun z nz => Out.newl rel h (Reps.ints _) z nz⟩
    · exact h.elim
  · exact h.elim
/-- the built-ins, with this -/
def strSF (ds : List D) (η : Hv) : R D := match ds with
  | [.str s] => .ok (.str s) η
  | _ => .bad
theorem strSF_of : BiOk X a .str strSF := by
  refine ⟨_, SkE.call_str_str, fun W σ ρ η H ds vs Q rel pd h => ?_⟩
  unfold strSF at h
  split at h
  · obtain ⟨v, rfl, p⟩ := pd.one
    exact ⟨_, by rw [p.strv], Out.okv rel h (.str _)⟩
  · exact h.elim
def biH : Bi → List D → Hv → R D
  | .sorted => orF (biG .sorted) sortDF
  | .str => orF (biG .str) strSF
  | b => biG b
theorem bi_allH (X' : Cx) (hc : X'.calm = true) (hu : X'.A.units + 65 < cLine) (hg : X'.A.guards = some []) (b : Bi) : BiOk X' a b (biH b) := by
  cases b
  case sorted => exact BiOk.or (bi_allG X' hc hu hg .sorted) (sortDF_of hc hu)
  case str => exact BiOk.or (bi_allG X' hc hu hg .str) strSF_of
  all_goals exact bi_allG X' hc hu hg _
end
end En
end

section
set_option maxRecDepth 100000
set_option maxHeartbeats 4000000
/-! WL: a row's tables, and the world that they make. -/
namespace En
open PySem PySem.Spec PyProof.Rows L2
/-! ### constants of the top -/
mutual
def repB (K : PySem.W.Frag) : D → Value → Bool
  | .non, u => (match u with
    | .none => true
    | _ => false)
  | .bl b, u => (match u with
    | .bool c => b == c
    | _ => false)
  | .int i, u => (match u with
    | .int j _ => decide (i = j)
    | _ => false)
  | .str x, u => (match u with
    | .str y _ => decide (x = y)
    | _ => false)
  | .tup ds, u => (match u with
    | .ref p => (match K.lookup p with
      | some ⟨.type c, none, .seq its _, _⟩ => decide (c = "tuple") && (decide (its.size ≤ sizeLine) && repsB K ds its.toList)
      | _ => false)
    | _ => false)
  | _, _ => false
def repsB (K : PySem.W.Frag) : List D → List Value → Bool
  | [], us => us.isEmpty
  | d :: ds, us => (match us with
    | u :: us => repB K d u && repsB K ds us
    | [] => false)
end
section
variable {K : PySem.W.Frag}
mutual
theorem repB_ok : ∀ (d : D) (u : Value), repB K d u = true → ∃ v, RelV v u ∧ ∀ ρ H, Rep K ρ H d v
  | .non, u, h => by
    unfold repB at h
    split at h
    · exact ⟨.non, rfl, fun _ _ => .non⟩
    · cases h
  | .bl b, u, h => by
    unfold repB at h
    split at h
    · rename_i c
      obtain rfl : b = c := eq_of_beq h
      exact ⟨.bl b, rfl, fun _ _ => .bl b⟩
    · cases h
  | .int i, u, h => by
    unfold repB at h
    split at h
    · rename_i j t
      obtain rfl : i = j := of_decide_eq_true h
      exact ⟨.int i, ⟨t, rfl⟩, fun _ _ => .int i⟩
    · cases h
  | .str x, u, h => by
    unfold repB at h
    split at h
    · rename_i y t
      obtain rfl : x = y := of_decide_eq_true h
      exact ⟨.str x, ⟨t, rfl⟩, fun _ _ => .str x⟩
    · cases h
  | .tup ds, u, h => by
    unfold repB at h
    split at h
    · rename_i p
      split at h
      · rename_i c its n sl q
        rw [Bool.and_eq_true, Bool.and_eq_true] at h
        obtain ⟨h1, h2, h3⟩ := h
        obtain ⟨vs, h4, h5⟩ := repsB_ok ds _ h3
        refine ⟨.ref p, rfl, fun ρ H => .ktup ⟨_, its, n, q, ?_, rfl, of_decide_eq_true h2, h4⟩ (h5 ρ H)⟩
        rw [of_decide_eq_true h1]
      · cases h
    · cases h
  | .lst _, u, h => by unfold repB at h; cases h
  | .scr _, u, h => by unfold repB at h; cases h
  | .ref _, u, h => by unfold repB at h; cases h
  | .exc _, u, h => by unfold repB at h; cases h
theorem repsB_ok : ∀ (ds : List D) (us : List Value), repsB K ds us = true → ∃ vs, Vals vs us ∧ ∀ ρ H, Reps K ρ H ds vs
  | [], us, h => by
    unfold repsB at h
    rw [List.isEmpty_iff.mp h]
    exact ⟨[], .nil, fun _ _ => .nil⟩
  | d :: ds, us, h => by
    unfold repsB at h
    split at h
    · rename_i u us
      rw [Bool.and_eq_true] at h
      obtain ⟨v, h1, h2⟩ := repB_ok d u h.1
      obtain ⟨vs, h3, h4⟩ := repsB_ok ds us h.2
      exact ⟨v :: vs, .cons h1 h3, fun ρ H => .cons (h2 ρ H) (h4 ρ H)⟩
    · cases h
end
theorem ktup_ok {ds : List Str} {u : Value} (h : repB K (.tup (ds.map .str)) u = true) : ∃ t, u = .ref t ∧ KTup K t (ds.map V.str) ∧ ∃ o, K.lookup t = some o ∧ o.cls = .type "tuple" ∧ o.dict = none := by
  unfold repB at h
  split at h
  · rename_i p
    split at h
    · rename_i c its n sl q
      rw [Bool.and_eq_true, Bool.and_eq_true] at h
      obtain ⟨h1, h2, h3⟩ := h
      have e : c = "tuple" := of_decide_eq_true h1
      subst e
      have vals : ∀ (ds : List Str) (us : List Value), repsB K (ds.map D.str) us = true → Vals (ds.map V.str) us := fun ds => by
        induction ds with
        | nil =>
          intro us h
          unfold repsB at h
          rw [List.isEmpty_iff.mp h]
          exact .nil
        | cons d ds ih =>
          intro us h
          rw [List.map_cons] at h
          unfold repsB at h
          split at h
          · rename_i u us
            rw [Bool.and_eq_true] at h
            have h1 := h.1
            unfold repB at h1
            split at h1
            · rename_i y t
              obtain rfl : d = y := of_decide_eq_true h1
              exact .cons ⟨t, rfl⟩ (ih us h.2)
            · cases h1
          · cases h
      exact ⟨p, rfl, ⟨_, its, n, q, rfl, rfl, of_decide_eq_true h2, vals ds _ h3⟩, _, q, rfl, rfl⟩
    · cases h
  · cases h
end
/-! ### a row's tables -/
/-- how a def's lists are kept: whether what is new goes at its end, whether what it gives is a value, the slots whose lists are changed -/
structure Tg where
  ty : Bool := true
  rz : Bool := true
  mu : List Nat := []
structure Rw where
  /-- each def, its slots' names, whether lambdas stand in it, whether it is tidied -/
  fd : List (He.DefD × List Str × Bool × Tg)
  cls : List Str := []
  exn : List Str
  glb : List (Str × Sy)
  dfl : List ((Nat × Nat) × List D)
  kwd : List ((Nat × Nat × List Str) × (List D → List D → List D)) := []
  meth : List ((Nat × Str) × Nat) := []
  ini : List (Nat × Nat) := []
  noat : List (Nat × Str) := []
  sub : Nat → Nat → Bool
  W : Nat := 0
  /-- whether caught exceptions are looked at -/
  mks : Bool := false
def psOf (p : Arguments) : List Str := p.args.map (·.arg) ++ p.kwonlyargs.map (·.arg)
def scopeB (N P : List Str) (sc : Scope) : Bool := decide (sc.kind = .function) && (!sc.isCoroutine && (!sc.isGenerator && (decide N.Nodup && (decide (N.take P.length = P) && ((P.all fun x => decide (sc.names.lookup x = some .local) || decide (sc.names.lookup x = some .cell)) && sc.names.all fun y => !decide (y.2 = .free))))))
theorem scopeB_ok {N P : List Str} {sc : Scope} (h : scopeB N P sc = true) : FnScope N P sc := by
  unfold scopeB at h
  simp only [Bool.and_eq_true, Bool.not_eq_true', decide_eq_true_eq, List.all_eq_true, Bool.or_eq_true, decide_eq_false_iff_not] at h
  obtain ⟨h1, h2, h3, h4, h5, h6, h7⟩ := h
  exact ⟨h1, h2, h3, h4, h5, h6, h7⟩
/-- isinstance of an own class: a built-in type's values are none; an instance by its class -/
def iscT (n c : Nat) (d : D) (η : Hv) : Option Bool := if c < n then (match tyName η d with
  | some _ => some false
  | none => (match d with
    | .ref i => (match η[i]? with
      | some (.ins c' _) => if c' < n then some (c' == c) else none
      | _ => none)
    | _ => none)) else none
namespace Rw
variable (rw : Rw)
def mkFd (glb : List (Str × Sy)) (e : He.DefD × List Str × Bool × Tg) : Fd where
  x := e.1.name
  qual := e.1.qual
  params := e.1.params
  body := e.1.body
  sc := e.1.scope
  ps := psOf e.1.params
  cx := { lam := e.2.2.1, N := e.2.1, tab := (e.2.1.zipIdx.map fun p => (p.1, Sy.slot p.2)) ++ glb, mu := e.2.2.2.mu, rz := e.2.2.2.rz }
  tidy := e.2.2.2.ty
def fs (f : Nat) : Option Fd := (rw.fd[f]?).map (mkFd rw.glb)
def gst (F : Nat → List D → Hv → R D) : Gst where
  F := F
  dfl f n := rw.dfl.lookup (f, n)
  kwd f n ks := rw.kwd.lookup (f, n, ks)
  meth c m := rw.meth.lookup (c, m)
  init c := rw.ini.lookup c
  noat c f := rw.noat.contains (c, f)
  B := biH
  M := mtG
  mok := mtOkG
  isc := iscT rw.cls.length
  W := rw.W
  nx := rw.exn.length
  sub := rw.sub
def cl (c : Nat) : Str := rw.cls.getD c Str.empty
def xn (c : Nat) : Str := rw.exn.getD c Str.empty
def lamQ (q : Str) : Str := (q ++ ".<locals>.") ++ "<lambda>"
def lams : List He.DefD := rw.fd.filterMap fun e => if e.2.2.1 then some e.1 else none
def tf : List He.Defn := rw.lams.map (·.at_)
def tabs (K : PySem.W.Frag) : List (Addr × Str) := rw.lams.map fun d => ((He.cT K d.at_).2, lamQ d.qual)
def ad (K : PySem.W.Frag) : Ad where
  C := ⟨fun c => He.ga K (rw.cl c), rw.tabs K⟩
  X := fun c => He.ga K (rw.xn c)
def tb (K : PySem.W.Frag) : Tb where
  fa f := match rw.fd[f]? with
    | some e => He.fAd K e.1.at_
    | none => 0
  fd f := match (rw.fd[f]?).bind fun e => K.lookup (He.fAd K e.1.at_) with
    | some ⟨_, _, .func fd, _⟩ => fd
    | _ => PySem.W.fnOf Str.empty Str.empty ⟨[], [], none, [], [], none, []⟩ [] ⟨.function, [], false, false, []⟩ .none .none .none .none none .none .none
  ps f := match rw.fd[f]? with
    | some e => psOf e.1.params
    | none => []
/-! ### the facts that are asked of the top -/
def symFa : Str × Sy → List He.Fa
  | (x, .fn _) => [.glo x]
  | (x, .cls _) => [.glo x]
  | (x, .exc _) => [.glo x, .exc x]
  | (x, .bi _) => [.free x]
  | (x, .said _) => [.glo x]
  | _ => []
def facts : List He.Fa := rw.glb.flatMap symFa ++ (rw.cls.map He.Fa.cls ++ (rw.meth.flatMap (fun e => [.cls (rw.cl e.1.1), .meth (rw.cl e.1.1) e.1.2]) ++ (rw.ini.map (fun e => .mkr (rw.cl e.1)) ++ rw.noat.flatMap fun e => [.cls (rw.cl e.1), .noat (rw.cl e.1) e.2])))
def symB (K : PySem.W.Frag) : Str × Sy → Bool
  | (x, .cst d) => (match PySem.W.nsIn K mainGlobals x with
    | some (some u) => repB K d u
    | _ => false)
  | (x, .kt ds) => (match PySem.W.nsIn K mainGlobals x with
    | some (some u) => repB K (.tup (ds.map .str)) u
    | _ => false)
  | _ => true
def tyNames : List String := ["NoneType", "bool", "int", "str", "tuple", "list", "dict"]
/-- what isinstance asks of the exception classes -/
def mkB (K : PySem.W.Frag) : Bool := (He.Fa.free "ValueError").ok K && (List.range rw.exn.length).all fun c => decide (PySem.W.findIn K (.ref (He.ga K (rw.xn c))) "__getattribute__" = some (some (.builtin "BaseException.__getattribute__"))) && (decide (PySem.W.findIn K (.ref (He.ga K (rw.xn c))) "__getattr__" = some none) &&
  (decide (PySem.W.subIn K (.ref (He.ga K (rw.xn c))) (.type "BaseException") = some true) && (PySem.W.hasDictIn K (He.ga K (rw.xn c)) && (decide (PySem.W.findIn K (.ref (He.ga K (rw.xn c))) "__class__" = some (some (.builtin "object.__class__"))) &&
  (decide (PySem.W.specialIn K (.builtin "object.__class__") "__get__" = some (some (.builtin "getset_descriptor.__get__"))) && (decide (PySem.W.takesIn K (.builtin "object.__class__") = some true) && (decide (PySem.W.mroIn K (He.ga K (rw.xn c)) (.type "object") = some true) &&
  (decide (PySem.W.kitOne K (.ref (He.ga K (rw.xn c))) (.type "ValueError") = some true) && (List.range rw.exn.length).all fun d => decide (PySem.W.kitOne K (.ref (He.ga K (rw.xn c))) (.ref (He.ga K (rw.xn d))) = some (rw.sub c d))))))))))
def exB (K : PySem.W.Frag) : Bool := (!rw.mks || rw.mkB K) && (rw.glb.all (symB K) && (((List.range rw.exn.length).all fun c => (List.range rw.exn.length).all fun d => decide (PySem.W.exmOne K (.ref (He.ga K (rw.xn c))) (.ref (He.ga K (rw.xn d))) = some (rw.sub c d))) &&
  (((List.range rw.cls.length).all fun c => (tyNames.all fun t => decide (PySem.W.kitOne K (.type t) (.ref (He.ga K (rw.cl c))) = some false)) && ((List.range rw.cls.length).all fun d => decide (PySem.W.kitOne K (.ref (He.ga K (rw.cl d))) (.ref (He.ga K (rw.cl c))) = some (d == c))) && (decide (PySem.W.findIn K (.ref (He.ga K (rw.cl c))) "__class__" = some (some (.builtin "object.__class__"))) && (decide (PySem.W.specialIn K (.builtin "object.__class__") "__get__" = some (some (.builtin "getset_descriptor.__get__"))) && (decide (PySem.W.takesIn K (.builtin "object.__class__") = some true) && decide (PySem.W.mroIn K (He.ga K (rw.cl c)) (.type "object") = some true))))) &&
  ((rw.tabs K).all fun p => (rw.tabs K).all fun q => !decide (p.1 = q.1) || decide (p.2 = q.2)))))
/-! ### the row by itself -/
def atIs (f : Nat) (p : Str × Option Str) : Bool := match rw.fd[f]? with
  | some e => decide (e.1.at_ = p)
  | none => false
def symC : Str × Sy → Bool
  | (_, .slot _) => false
  | (x, .fn f) => rw.atIs f (x, none)
  | (x, .cls c) => decide (c < rw.cls.length) && decide (rw.cl c = x)
  | (x, .exc c) => decide (c < rw.exn.length) && decide (rw.xn c = x)
  | (x, .bi b) => decide (x = biName b)
  | _ => true
def okB : Bool := rw.glb.all rw.symC && ((rw.meth.all fun e => rw.atIs e.2 (rw.cl e.1.1, some e.1.2)) && ((rw.ini.all fun e => rw.atIs e.2 (rw.cl e.1, some "__init__")) &&
  ((rw.fd.all fun e => scopeB e.2.1 (psOf e.1.params) e.1.scope) && ((rw.dfl.all fun e => decide (e.1.1 < rw.fd.length)) && rw.kwd.all fun e => decide (e.1.1 < rw.fd.length)))))
end Rw
theorem lookup_in {α β : Type} [BEq α] [LawfulBEq α] {k : α} {v : β} : ∀ {l : List (α × β)}, l.lookup k = some v → (k, v) ∈ l
  | [], h => by cases h
  | (a, b) :: r, h => by
    rw [List.lookup_cons] at h
    split at h
    · rename_i q
      cases h
      rw [eq_of_beq q]
      exact List.mem_cons_self
    · exact List.mem_cons_of_mem _ (lookup_in h)
theorem lookup_app {α β : Type} [BEq α] [LawfulBEq α] {k : α} {v : β} : ∀ {l m : List (α × β)}, (l ++ m).lookup k = some v → l.lookup k = some v ∨ m.lookup k = some v
  | [], m, h => .inr h
  | (a, b) :: r, m, h => by
    rw [List.cons_append, List.lookup_cons] at h
    rw [List.lookup_cons]
    split at h
    · exact .inl h
    · exact lookup_app h
section
variable {P : Program} {w : World} {K : PySem.W.Frag} {mg : Str → Option Value} {base h : Heap} {rw : Rw} {F : Nat → List D → Hv → R D}
theorem Rw.fa_eq {f : Nat} {p : Str × Option Str} (h : rw.atIs f p = true) : (rw.tb K).fa f = He.fAd K p := by
  unfold Rw.atIs at h
  show (match rw.fd[f]? with
    | some e => He.fAd K e.1.at_
    | none => 0) = _
  split at h
  · rw [of_decide_eq_true h]
  · cases h
theorem Rw.ps_eq {f : Nat} {e : He.DefD × List Str × Bool × Tg} (h : rw.fd[f]? = some e) : (rw.tb K).ps f = psOf e.1.params ∧ (rw.tb K).fa f = He.fAd K e.1.at_ := by
  constructor
  · show (match rw.fd[f]? with
      | some e => psOf e.1.params
      | none => []) = _
    rw [h]
  · show (match rw.fd[f]? with
      | some e => He.fAd K e.1.at_
      | none => 0) = _
    rw [h]
theorem Rw.fun_ (S : He.SaysX rw.facts (rw.fd.map (·.1)) [] rw.tf rw.exB w h K) {f : Nat} {e : He.DefD × List Str × Bool × Tg} (he : rw.fd[f]? = some e) :
    FunD K e.1.name e.1.qual e.1.params e.1.body e.1.scope (e.1.dvs K) (e.1.kws K) ((rw.tb K).fa f) ((rw.tb K).fd f) := by
  obtain ⟨fd, G⟩ := S.t.d.defs (List.mem_map_of_mem (f := (·.1)) (List.mem_of_getElem? he))
  rw [(Rw.ps_eq he).2]
  obtain ⟨oc, od, dV, kV, doc, pm, an, cdv, ct, osl, e1, lk, _⟩ := G.ex
  have e2 : (rw.tb K).fd f = fd := by
    show (match (rw.fd[f]?).bind fun e => K.lookup (He.fAd K e.1.at_) with
      | some ⟨_, _, .func fd, _⟩ => fd
      | _ => _) = fd
    rw [he, Option.bind_some, lk]
  rw [e2]
  exact G
theorem Rw.symG (ok : rw.okB = true) (S : He.SaysX rw.facts (rw.fd.map (·.1)) [] rw.tf rw.exB w h K) (KX : K.In base) (hns : base.Ns mainGlobals mg) (X : Cx) (hK : X.K = K) (hm : X.mg = mg) (x : Str) (s : Sy) (z : (x, s) ∈ rw.glb) (hs : ∀ w, s = Sy.said w → SaidOk K mg (rw.ad K) x w) : SymOk X (rw.ad K) (rw.tb K) x s := by
  unfold Rw.okB at ok
  simp only [Bool.and_eq_true, List.all_eq_true] at ok
  have okx := ok.1 _ z
  have more := S.more
  unfold Rw.exB at more
  simp only [Bool.and_eq_true, List.all_eq_true] at more
  have fact : ∀ f : He.Fa, f ∈ Rw.symFa (x, s) → f.ok K = true := fun f hf => S.t.d.facts (List.mem_append_left _ (List.mem_flatMap.mpr ⟨_, z, hf⟩))
  have mx := more.2.1 _ z
  rw [← hK] at KX fact mx ⊢
  rw [← hm] at hns
  cases s with
  | slot i => cases okx
  | cst d =>
    unfold Rw.symB at mx
    dsimp only at mx
    split at mx
    · rename_i u hu
      obtain ⟨v, h1, h2⟩ := repB_ok d u mx
      exact ⟨v, u, PySem.W.mg_of KX hns hu, h1, h2⟩
    · cases mx
  | kt ds =>
    unfold Rw.symB at mx
    dsimp only at mx
    split at mx
    · rename_i u hu
      obtain ⟨t, rfl, h1, h2⟩ := ktup_ok mx
      exact ⟨t, PySem.W.mg_of KX hns hu, h1, h2⟩
    · cases mx
  | fn f =>
    show X.mg x = some (.ref ((rw.tb X.K).fa f))
    rw [Rw.fa_eq okx]
    exact He.glo_ok KX hns (fact _ (List.mem_singleton.mpr rfl))
  | cls c =>
    unfold Rw.symC at okx
    simp only [Bool.and_eq_true, decide_eq_true_eq] at okx
    show X.mg x = some (.ref (He.ga X.K (rw.cl c)))
    rw [okx.2]
    exact He.glo_ok KX hns (fact _ (List.mem_singleton.mpr rfl))
  | exc c =>
    unfold Rw.symC at okx
    simp only [Bool.and_eq_true, decide_eq_true_eq] at okx
    show X.mg x = some (.ref (He.ga X.K (rw.xn c))) ∧ ExcAt X (He.ga X.K (rw.xn c))
    rw [okx.2]
    obtain ⟨e1, e2, e3, e4⟩ := He.exc_ok (fact _ (List.mem_cons_of_mem _ (List.mem_singleton.mpr rfl)))
    exact ⟨He.glo_ok KX hns (fact _ List.mem_cons_self), _, _, _, _, PySem.F.excBase_ValueError, e1, e2, raises_own e3 e4⟩
  | bi b => exact ⟨of_decide_eq_true okx, He.free_ok KX hns (fact _ (List.mem_singleton.mpr rfl))⟩
  | said w =>
    show SaidOk X.K X.mg (rw.ad X.K) x w
    rw [hK, hm]
    exact hs w rfl
theorem Rw.sym_ (ok : rw.okB = true) (S : He.SaysX rw.facts (rw.fd.map (·.1)) [] rw.tf rw.exB w h K) (KX : K.In base) (hns : base.Ns mainGlobals mg) (hs : ∀ x w, (x, Sy.said w) ∈ rw.glb → SaidOk K mg (rw.ad K) x w)
    {e : He.DefD × List Str × Bool × Tg} (X : Cx) (hK : X.K = K) (hm : X.mg = mg) (hN : X.N = e.2.1) (x : Str) (s : Sy) (hx : (Rw.mkFd rw.glb e).cx.tab.lookup x = some s) : SymOk X (rw.ad K) (rw.tb K) x s := by
  have hx2 : ((e.2.1.zipIdx.map fun p => (p.1, Sy.slot p.2)) ++ rw.glb).lookup x = some s := hx
  rcases lookup_app hx2 with z | z
  · have z := lookup_in z
    obtain ⟨⟨y, i⟩, h1, h2⟩ := List.mem_map.mp z
    cases h2
    show X.N[i]? = some y
    rw [hN]
    have := List.mem_zipIdx h1
    obtain ⟨h3, h4, h5⟩ := this
    simp only [Nat.zero_add, Nat.sub_zero] at h4 h5
    rw [List.getElem?_eq_getElem h4, h5]
  · have z := lookup_in z
    exact Rw.symG ok S KX hns X hK hm x s z fun w e => hs x w (by rw [← e]; exact z)
theorem Rw.sta_ (ok : rw.okB = true) (S : He.SaysX rw.facts (rw.fd.map (·.1)) [] rw.tf rw.exB w h K) (hd : ∀ e ∈ rw.dfl, DflOk K (rw.tb K) e.1.1 e.1.2 e.2) (hk : ∀ e ∈ rw.kwd, KwdOk K (rw.tb K) e.1.1 e.1.2.1 e.1.2.2 e.2) : Sta K (rw.ad K) (rw.tb K) (rw.gst F) := by
  have ok2 := ok
  unfold Rw.okB at ok2
  simp only [Bool.and_eq_true, List.all_eq_true] at ok2
  obtain ⟨_, o2, o3, o4, o5, o6⟩ := ok2
  have keep : ∀ f, f < rw.fd.length → PySem.W.keepIn K (.ref ((rw.tb K).fa f)) = true := fun f hf => (Rw.fun_ S (List.getElem?_eq_getElem hf)).kp
  refine ⟨fun f n ds e => ?_, fun f n ks g e => ?_, fun c m f e => ?_, fun c f e => ?_, fun c f e => ?_⟩
  · have z := lookup_in (show rw.dfl.lookup (f, n) = some ds from e)
    exact ⟨keep f (of_decide_eq_true (o5 _ z)), hd _ z⟩
  · have z := lookup_in (show rw.kwd.lookup (f, n, ks) = some g from e)
    exact ⟨keep f (of_decide_eq_true (o6 _ z)), hk _ z⟩
  · have z := lookup_in (show rw.meth.lookup (c, m) = some f from e)
    have fact : ∀ f : He.Fa, f ∈ [He.Fa.cls (rw.cl c), .meth (rw.cl c) m] → f.ok K = true := fun f hf => S.t.d.facts (List.mem_append_right _ (List.mem_append_right _ (List.mem_append_left _ (List.mem_flatMap.mpr ⟨_, z, hf⟩))))
    rw [Rw.fa_eq (o2 _ z)]
    exact ⟨He.cls_ok (fact _ List.mem_cons_self), He.meth_ok (fact _ (List.mem_cons_of_mem _ (List.mem_singleton.mpr rfl)))⟩
  · have z := lookup_in (show rw.ini.lookup c = some f from e)
    have fact : (He.Fa.mkr (rw.cl c)).ok K = true := S.t.d.facts (List.mem_append_right _ (List.mem_append_right _ (List.mem_append_right _ (List.mem_append_left _ (List.mem_map.mpr ⟨_, z, rfl⟩)))))
    rw [Rw.fa_eq (o3 _ z)]
    exact He.mkr_ok fact
  · have z : (c, f) ∈ rw.noat := List.contains_iff_mem.mp (show rw.noat.contains (c, f) = true from e)
    have fact : ∀ g : He.Fa, g ∈ [He.Fa.cls (rw.cl c), .noat (rw.cl c) f] → g.ok K = true := fun g hf => S.t.d.facts (List.mem_append_right _ (List.mem_append_right _ (List.mem_append_right _ (List.mem_append_right _ (List.mem_flatMap.mpr ⟨_, z, hf⟩)))))
    exact ⟨He.cls_ok (fact _ List.mem_cons_self), He.noat_ok (fact _ (List.mem_cons_of_mem _ (List.mem_singleton.mpr rfl)))⟩
theorem Rw.isc_ (S : He.SaysX rw.facts (rw.fd.map (·.1)) [] rw.tf rw.exB w h K) : ∀ c ρ η H d v b, Rel K (rw.ad K).C ρ η H → Rep K ρ H d v → iscT rw.cls.length c d η = some b → ∃ t, TyX K H v t ∧ PySem.W.kitOne K t (.ref ((rw.ad K).C c)) = some b := fun c ρ η H d v b rel rp e => by
  have more := S.more
  unfold Rw.exB at more
  simp only [Bool.and_eq_true, List.all_eq_true, List.mem_range] at more
  obtain ⟨_, _, _, m3, _⟩ := more
  unfold iscT at e
  split at e
  · rename_i hc
    obtain ⟨⟨m4, m5⟩, _⟩ := m3 c hc
    split at e
    · rename_i t ht
      cases e
      refine ⟨_, rp.tyX rel ht, ?_⟩
      refine of_decide_eq_true (m4 t ?_)
      unfold tyName at ht
      unfold Rw.tyNames
      split at ht
      all_goals first
        | (cases ht; simp)
        | skip
      split at ht
      all_goals first
        | (cases ht; simp)
        | cases ht
    · split at e
      · rename_i i _
        split at e
        · rename_i c' fs hi
          split at e
          · rename_i hc'
            cases e
            obtain ⟨p, dx, fv, rfl, h2, h3, _⟩ := rel.ins hi rp
            have fact : (He.Fa.cls (rw.cl c')).ok K = true := S.t.d.facts (List.mem_append_right _ (List.mem_append_left _ (List.mem_map.mpr ⟨_, by
              unfold Rw.cl
              rw [List.getD_eq_getElem?_getD, List.getElem?_eq_getElem hc']
              exact List.getElem_mem hc', rfl⟩)))
            obtain ⟨_, m6, m7, m8, m9⟩ := m3 c' hc'
            exact ⟨.ref (He.ga K (rw.cl c')), .base (.ins h3 (He.cls_ok fact) (of_decide_eq_true m6) (of_decide_eq_true m7) (of_decide_eq_true m8) (of_decide_eq_true m9)), of_decide_eq_true (m5 c' hc')⟩
          · cases e
        · cases e
      · cases e
  · cases e
theorem Rw.wld (ok : rw.okB = true) (S : He.SaysX rw.facts (rw.fd.map (·.1)) [] rw.tf rw.exB w h K) (KX : K.In base) (hns : base.Ns mainGlobals mg) (ht : ∀ p ∈ rw.tf, LamX.TabB base mg (He.cT K p).1 (He.cT K p).2)
    (hs : ∀ x w, (x, Sy.said w) ∈ rw.glb → SaidOk K mg (rw.ad K) x w) (hd : ∀ e ∈ rw.dfl, DflOk K (rw.tb K) e.1.1 e.1.2 e.2) (hk : ∀ e ∈ rw.kwd, KwdOk K (rw.tb K) e.1.1 e.1.2.1 e.1.2.2 e.2) : Wld P w K mg base (rw.ad K) (rw.tb K) (rw.gst F) rw.fs := by
  have ok2 := ok
  unfold Rw.okB at ok2
  simp only [Bool.and_eq_true, List.all_eq_true] at ok2
  obtain ⟨_, _, _, o4, o5, o6⟩ := ok2
  have more := S.more
  unfold Rw.exB at more
  simp only [Bool.and_eq_true, List.all_eq_true, List.mem_range] at more
  obtain ⟨_, _, m2, _, m4⟩ := more
  have fsd : ∀ f d, rw.fs f = some d → ∃ e, rw.fd[f]? = some e ∧ d = Rw.mkFd rw.glb e := fun f d e => by
    unfold Rw.fs at e
    obtain ⟨x, h1, h2⟩ := Option.map_eq_some_iff.mp e
    exact ⟨x, h1, h2.symm⟩
  have some_ : ∀ f, f < rw.fd.length → (rw.fs f).isSome = true := fun f hf => by
    unfold Rw.fs
    rw [List.getElem?_eq_getElem hf]
    rfl
  exact {
    fn := fun f d e => by
      obtain ⟨x, h1, rfl⟩ := fsd f d e
      exact ⟨⟨_, _, Rw.fun_ S h1⟩, (Rw.ps_eq h1).1, scopeB_ok (o4 _ (List.mem_of_getElem? h1))⟩
    lam := fun f d e hl => by
      obtain ⟨x, h1, rfl⟩ := fsd f d e
      have hl : x.2.2.1 = true := hl
      have hm : x.1 ∈ rw.lams := by
        refine List.mem_filterMap.mpr ⟨x, List.mem_of_getElem? h1, ?_⟩
        rw [if_pos hl]
      have G := Rw.fun_ S h1
      obtain ⟨oc, od, dV, kV, doc, pm, an, cdv, ct, osl, e1, lk, hcd, _⟩ := G.ex
      obtain ⟨c, rfl⟩ := He.codeIn_ref hcd
      have e2 : ((rw.tb K).fd f).code = .ref c := by rw [e1]
      have e3 : He.codeOf K x.1.at_ = c := He.codeOf_eq (by rw [← (Rw.ps_eq h1).2]; exact lk) e2
      have tm : ((He.cT K x.1.at_).2, Rw.lamQ x.1.qual) ∈ rw.tabs K := List.mem_map.mpr ⟨x.1, hm, rfl⟩
      refine ⟨c, (He.cT K x.1.at_).2, e2, ?_, tm, fun p hp z => ?_⟩
      · have := ht x.1.at_ (List.mem_map.mpr ⟨x.1, hm, rfl⟩)
        rw [show (He.cT K x.1.at_).1 = c from e3] at this
        exact this
      · have := m4 p hp _ tm
        simp only [Bool.or_eq_true, Bool.not_eq_true', decide_eq_true_eq, decide_eq_false_iff_not] at this
        rcases this with y | y
        · exact absurd z y
        · exact y
    sym := fun f d e X hK hm hN x s hx => by
      obtain ⟨x', h1, rfl⟩ := fsd f d e
      exact Rw.sym_ ok S KX hns hs X hK hm hN x s hx
    has := fun f n ds e => some_ f (of_decide_eq_true (o5 _ (lookup_in (show rw.dfl.lookup (f, n) = some ds from e))))
    hask := fun f n ks g e => some_ f (of_decide_eq_true (o6 _ (lookup_in (show rw.kwd.lookup (f, n, ks) = some g from e))))
    sta := Rw.sta_ ok S hd hk
    bi := fun X' hc hu hg b _ => bi_allH X' hc hu hg b
    bm := fun X' hu t m e => mt_allG X' hu t m e
    sub := fun c d hc hd => of_decide_eq_true (m2 c hc d hd)
    isc := Rw.isc_ S }
end
end En
end

section
set_option maxRecDepth 100000
set_option maxHeartbeats 4000000
/-! SD: defs called where an exception is handled that is handed to them; which classes it is of. -/
namespace En
open PySem PySem.Spec PyProof.Rows L2 L2H
section
variable {X : Cx}
/-- isinstance(e, c), e an exception that stands still -/
theorem call_isP {e D : Addr} {oe : Obj} (hp : (e, oe) ∈ X.pn) (C : ExcC X.K D) (hz : Zc (.ref D) none oe) (hf : ∃ vs, oe.data = .fields vs) : CallR X (.builtin "isinstance") (rIsE X.K D e) := by
  intro pins s σ H xs us Q I r h
  obtain ⟨c, cv, b, rfl, hcv, ek, q⟩ := h
  cases r with
  | cons r1 r2 =>
    cases r2 with
    | cons r3 r4 =>
      cases r4
      cases r1
      obtain rfl := hcv _ r3
      have hget := (I.pin (e, oe) (List.mem_append_left _ hp)).1
      obtain ⟨vs, hv⟩ := hf
      have J : PySem.W.InstAt s.heap e oe D none := by
        obtain ⟨k1, k2, k3, k4⟩ := oe
        obtain ⟨z1, z2⟩ := hz
        dsimp only at z1 z2 hv
        subst z1 z2 hv
        exact ⟨hget, rfl, rfl, trivial⟩
      exact PySem.W.kia_one (PySem.W.handS_kitx_exc C.hg C.hk C.hs C.hd C.ha C.hn C.ht C.hm) I.kIn J ek (fun z => nomatch z) fun tk => ⟨.bl b, H, I.kept (t' := tk) fun _ _ z => z, rfl, q⟩
end
/-- what a def promises that is given the handled exception -/
structure FnE (P : Program) (w : World) (K : PySem.W.Frag) (mg : Str → Option Value) (base : Heap) (CX : CXT) (k : Nat) (f : Addr) (fd : FuncData) (ps : List Str) (sp : Addr → Obj → Sp) : Prop where
  len : ∀ e oe vs H Q E, sp e oe vs H Q E → vs.length = ps.length
  go : ∀ {A : Around} {outer : List Env} {s : Shared} {H : Hp} {args : Args} {us : List Value} {vs : List V} {Q : VK} {E : XK} {e : Addr} {oe : Obj}, RoomH k A → Hot1 A (e, oe) → PinOk outer H s (e, oe) → Env0 P w K mg base A outer s H → BindsTo s fd args (ps.zip us) → Vals vs us → sp e oe vs H Q E →
    codeAny (model P w) A (.call (.ref f) args) (CR CX outer P w H s Q E) s
theorem fn_ofE {CX : CXT} {P : Program} {w : World} {K : PySem.W.Frag} {mg : Str → Option Value} {base : Heap} {k : Nat} {f : Addr} {name qual : Str} {params : Arguments} {body : List Stmt} {scope : Scope} {dV kV doc pm cdv ct oc : Value} {an od : Option Addr}
    {osl : Array (Option Value)} {N ps : List Str} {sp : Addr → Obj → Sp} (lk : K.lookup f = some ⟨oc, od, .func (PySem.W.fnOf name qual params body scope dV kV doc pm an cdv ct), osl⟩) (hcd : PySem.W.codeIn K cdv qual = true) (S : FnScope N ps scope) (len : ∀ e oe vs H Q E, sp e oe vs H Q E → vs.length = ps.length)
    (hbody : ∀ (A : Around) (outer : List Env) (s : Shared) (H : Hp) (vs : List V) (Q : VK) (E : XK) (e : Addr) (oe : Obj), Hot1 A (e, oe) → RoomH k (A.deeper (envOfC qual scope s.heap.objs.size f cdv)) → sp e oe vs H Q E →
      ∃ t, PSs (cxH CX P w K mg base N qual scope f cdv A outer s H E (e, oe)) body t ∧ t { nx := fun _ H' => Q .non H', rt := Q } (L2.start N vs) H) :
    FnE P w K mg base CX (k + 1) f (PySem.W.fnOf name qual params body scope dV kV doc pm an cdv ct) ps sp := by
  refine ⟨len, fun {A outer s H args us vs Q E e oe} hr hot pin e0 hb r hsp => ?_⟩
  have inK : K.In s.heap := e0.mod.kin.keeps fun b o z => (e0.bs b o z).1
  have kinds : ∀ y ∈ ps.zip us, scope.names.lookup y.1 = some .local ∨ (scope.names.lookup y.1 = some .cell ∧ ((cellsFrom (s.heap.objs.size + 1) scope.names []).lookup y.1).isSome = true) := fun ⟨n, v⟩ hy =>
    (S.par n (List.of_mem_zip hy).1).elim .inl fun q => .inr ⟨q, PySem.W.cellsFrom_some _ _ _ (.inl q)⟩
  refine codeAny_call_function hr.depth (inK _ _ lk) rfl S.co S.gen rfl (PySem.W.codeRec_of inK hcd) (hb _ _ _ _ (wpAny_newFunctionEnv_cells S.kind kinds fun env he s1 x => ?_))
  subst he
  refine ⟨(e0.mod.nolimit.keeps fun b o z => (e0.bs b o z).1).keeps x.toInCall.keep, codeAny_func ?_⟩
  obtain ⟨t, ht, hq⟩ := hbody A outer s H vs Q E e oe hot (hr.deeper _) hsp
  have I : Inv (cxH CX P w K mg base N qual scope f cdv A outer s H E (e, oe)) [] (L2.start N vs) H s1 := inv_startH S pin e0 (len _ _ _ _ _ _ hsp) r x
  refine wpAny_mono (ht.run [] s1 (L2.start N vs) H _ I hq) (fun fl s2 hs => ?_) fun u s2 hs => hs
  match fl with
  | .ret u =>
    obtain ⟨v, σ2, H2, J, rv, q⟩ := hs
    exact ⟨v, H2, J.os, J.bare, J.base, J.hok, rv, q⟩
  | .next =>
    obtain ⟨σ2, H2, J, q⟩ := hs
    exact ⟨V.non, H2, J.os, J.bare, J.base, J.hok, rfl, q⟩
  | .brk => exact (let ⟨_, _, _, q⟩ := hs; q.elim)
  | .cont => exact (let ⟨_, _, _, q⟩ := hs; q.elim)
section
variable {X : Cx} {CX : CXT} {k : Nat} {f : Addr} {fd : FuncData} {ps : List Str} {sp : Addr → Obj → Sp} {E : L2.St → XK} {x : Str} {q pos : Pos} {a : Expr} {es : List Expr} {t : TA} {e : Addr} {oe : Obj}
theorem pe_callE (F : FnE X.prog X.w X.K X.mg X.base CX k f fd ps sp) (hr : RoomH k X.A) (hot : Hot1 X.A (e, oe)) (hp : (e, oe) ∈ X.pn) (hg : Gl X x) (hm : X.mg x = some (.ref f)) (hk : PySem.W.keepIn X.K (.ref f) = true) (hb : Binds X.K fd ps []) (hx : ∀ σ, PassesAt CX X σ (E σ))
    (ha : PA X (a :: es) t) (hdb : (x == ("__debug__" : Str)) = false) (he : starEach (a :: es) X.env = (false, eval a X.env) :: starEach es X.env := by rfl) (hpl : (backTo pos (starEach es X.env)).any (·.1) = false := by rfl) :
    PE X (.Call (.Name x q) (a :: es) [] pos) (tCallS (sp e oe) E t) := by
  refine ⟨fun pins s σ H Q I h => ?_⟩
  refine wpAny_Call_Name_kw (ld_glob I hg hm (PySem.W.callWith_K (h₀ := X.base) I.ok.mod.kin hk (thn (ha.run pos pins s σ H _ I h) fun us s1 ⟨vs, H1, I1, r, hq⟩ => ⟨I1.kIn, ?_⟩) he hpl) hdb)
  have b := hb s1 us I1.kIn (by rw [List.append_nil, ← r.length]; exact F.len _ _ _ _ _ _ hq)
  rw [List.append_nil] at b
  obtain ⟨p1, p2, p3, p4, p5⟩ := I1.pin (e, oe) (List.mem_append_left _ hp)
  have pin : PinOk X.stack H1 s1 (e, oe) := ⟨p1, p2, fun hm => (List.mem_cons.mp (I1.stkSub _ hm)).elim p3 p4, p5⟩
  refine wpAny_call (codeAny_mono (F.go (us := us) (vs := vs) (E := E σ) hr hot pin I1.env0 b r hq) fun r2 s2 hq2 => ?_)
  match r2 with
  | .error u => exact hx σ pins H1 s1 u s2 I1 hq2
  | .ok (.ret u) => exact I1.after hq2
  | .ok .next => exact hq2.elim
  | .ok .brk => exact hq2.elim
  | .ok .cont => exact hq2.elim
end
/-! ### the marks: which classes an exception is of -/
section
variable (glb : List (Str × Sy)) (sc : Scope) (ev mv : Str)
def isiOf : Expr → Option Nat
  | .Call (.Name x _) [.Name y _, .Name z _] [] _ => (match glb.lookup x, glb.lookup z with
    | some (.bi .isinstance), some (.exc c) => if gloB sc x && (gloB sc z && decide (y = ev)) then some c else none
    | _, _ => none)
  | _ => none
def isisOf : List Expr → Option (List Nat)
  | [] => some []
  | e :: r => (match isiOf glb sc ev e, isisOf r with
    | some c, some cs => some (c :: cs)
    | _, _ => none)
def marksR : List Stmt → Option (List Nat)
  | [.Return (some (.BinOp (.Name m _) .Add (.List es _) _)) _] => if m = mv then isisOf glb sc ev es else none
  | .Assign [.Name t _] (.BinOp (.Name m _) .Add (.List es _) _) _ :: r => if m = mv ∧ t = mv then (match isisOf glb sc ev es, marksR r with
    | some a, some b => some (a ++ b)
    | _, _ => none) else none
  | _ => none
def marksOf : List Stmt → Option (List Nat)
  | .Assign [.Name t _] (.List es _) _ :: r => if t = mv then (match isisOf glb sc ev es, marksR glb sc ev mv r with
    | some a, some b => some (a ++ b)
    | _, _ => none) else none
  | _ => none
end
/-- what is known of the exception -/
structure ExcK (K : PySem.W.Frag) (a : Ad) (D : Addr) (b : Nat → Bool) (n : Nat) : Prop where
  ec : ExcC K D
  kit : ∀ c, c < n → PySem.W.kitOne K (.ref D) (.ref (a.X c)) = some (b c)
  ve : PySem.W.kitOne K (.ref D) (.type "ValueError") = some true
section
variable {X : Cx} {a : Ad} {T : Tb} {glb : List (Str × Sy)} {sc : Scope} {ev mv : Str} {e D : Addr} {oe : Obj} {b : Nat → Bool} {n : Nat}
theorem pa_isis (hsym : ∀ x s, glb.lookup x = some s → SymOk X a T x s) (hsc : X.env.scope = sc) (hN : X.N[0]? = some ev) (hv : Vis X.env.scope ev) (hd : (ev == ("__debug__" : Str)) = false) (hcd : (ev == ("__classdict__" : Str)) = false) (hp : (e, oe) ∈ X.pn) (hz : Zc (.ref D) none oe) (hf : ∃ vs, oe.data = .fields vs) (ek : ExcK X.K a D b n) :
    ∀ {es : List Expr} {cs : List Nat}, isisOf glb sc ev es = some cs → (∀ c ∈ cs, c < n) → PA X es (fun σ H Q => σ[0]? = some (some (.ref e)) ∧ Q (cs.map fun c => V.bl (b c)) H)
 := by
  intro es
  induction es with
  | nil =>
    intro cs h _
    cases h
    exact pa_nil.imp fun σ H Q h => h.2
  | cons x r ihr =>
    intro cs h hn
    unfold isisOf at h
    split at h
    · rename_i c cs' h1 h2
      cases h
      unfold isiOf at h1
      split at h1
      · rename_i x px y py z pz pos
        split at h1
        · rename_i c' hx1 hx2
          split at h1
          · rename_i hb
            cases h1
            rw [Bool.and_eq_true, Bool.and_eq_true] at hb
            obtain ⟨b1, b2, b3⟩ := hb
            obtain rfl := of_decide_eq_true b3
            obtain ⟨g1, g2, g3⟩ := gloOf hsc b1
            obtain ⟨g4, g5, g6⟩ := gloOf hsc b2
            obtain ⟨e1, hm1⟩ := hsym x _ hx1
            obtain ⟨hm2, _⟩ := hsym z _ hx2
            have ih := ihr h2 fun c hc => hn c (List.mem_cons_of_mem _ hc)
            have call := pe_callB (pos := pos) (p := px) (call_isP (X := X) hp ek.ec hz hf) g1 hm1 (by rw [e1]; exact boot_bi .isinstance) (pa_cons (pe_var (i := 0) (pos := py) hN hv hd hcd) (pa_cons (pe_glob (v := .ref (a.X c)) (pos := pz) g4 hm2 rfl g5) pa_nil)) g3 g2
            refine (pa_cons call ih).imp fun σ H Q h => ?_
            refine ⟨_, h.1, .ref (a.X c), _, b c, rfl, fun u hu => hu, ek.kit c (hn c List.mem_cons_self), h.1, h.2⟩
          · cases h1
        · cases h1
      · cases h1
    · cases h
/-- the rest of the marks: what was gathered stands at l -/
theorem pss_marks (hsym : ∀ x s, glb.lookup x = some s → SymOk X a T x s) (hsc : X.env.scope = sc) (hnd : X.N.Nodup) (hN : X.N[0]? = some ev) (hv : Vis X.env.scope ev) (hd : (ev == ("__debug__" : Str)) = false) (hcd : (ev == ("__classdict__" : Str)) = false)
    (hN1 : X.N[1]? = some mv) (hl1 : L2.Loc X.env.scope mv) (hfn : X.fn mv = true) (hv1 : Vis X.env.scope mv) (hd1 : (mv == ("__debug__" : Str)) = false) (hcd1 : (mv == ("__classdict__" : Str)) = false) (hp : (e, oe) ∈ X.pn) (hz : Zc (.ref D) none oe) (hf : ∃ vs, oe.data = .fields vs) (ek : ExcK X.K a D b n) :
    ∀ {body : List Stmt} {cs : List Nat}, marksR glb sc ev mv body = some cs → (∀ c ∈ cs, c < n) → PSs X body (fun Tz σ H => ∃ (l : Addr) (pre : List V), σ[0]? = some (some (.ref e)) ∧ σ[1]? = some (some (.ref l)) ∧ H l = some (.lst pre) ∧ pre.length + cs.length ≤ 1000 ∧ 2 ≤ σ.length ∧
      ∀ p H', (∀ z o, H z = some o → H' z = some o) → H' p = some (.lst (pre ++ cs.map fun c => V.bl (b c))) → Tz.rt (.ref p) H') := by
  have sl : 1000 ≤ sizeLine := by rw [sizeLine_eq]; omega
  intro body
  induction body with
  | nil => intro cs h; cases h
  | cons st r ih =>
    intro cs h hn
    unfold marksR at h
    split at h
    · rename_i m pm es pl pb pr hz2
      cases hz2
      split at h
      · rename_i hm
        subst hm
        have args := pa_isis hsym hsc hN hv hd hcd hp hz hf ek h hn
        refine PSs.imp (pss_one (ps_ret (pe_op op_cat (pe_var (i := 1) hN1 hv1 hd1 hcd1) (pe_lst args)))) fun Tz σ H ⟨l, pre, s0, s1, hl, hlen, _, fin⟩ => ?_
        refine ⟨_, s1, s0, by rw [List.length_map]; omega, fun q nq => ⟨l, q, pre, _, rfl, rfl, by rw [upd_ne (ne_of_none hl nq)]; exact hl, upd_same, by rw [List.length_map]; omega, fun p np => ?_⟩⟩
        exact fin p _ (fun z o hz => by rw [upd_ne (ne_of_none (by rw [upd_ne (ne_of_none hz nq)]; exact hz) np), upd_ne (ne_of_none hz nq)]; exact hz) upd_same
      · cases h
    · rename_i t pt m pm es pl pb pa r' hz2
      cases hz2
      split at h
      · rename_i hm
        obtain ⟨rfl, rfl⟩ := hm
        split at h
        · rename_i c1 c2 h1 h2
          cases h
          have args := pa_isis hsym hsc hN hv hd hcd hp hz hf ek h1 fun c hc => hn c (List.mem_append_left _ hc)
          have rest := ih h2 fun c hc => hn c (List.mem_append_right _ hc)
          refine PSs.imp (pss_cons (ps_set (i := 1) hnd hN1 hl1 (pe_op op_cat (pe_var (i := 1) hN1 hv1 hd1 hcd1) (pe_lst args)) (by rfl) (.inl hfn)) rest) fun Tz σ H ⟨l, pre, s0, s1, hl, hlen, h2l, fin⟩ => ?_
          rw [List.length_append] at hlen
          refine ⟨_, s1, s0, by rw [List.length_map]; omega, fun q nq => ⟨l, q, pre, _, rfl, rfl, by rw [upd_ne (ne_of_none hl nq)]; exact hl, upd_same, by rw [List.length_map]; omega, fun p np => ?_⟩⟩
          have kp : ∀ z o, H z = some o → upd (upd H q (.lst (c1.map fun c => V.bl (b c)))) p (.lst (pre ++ c1.map fun c => V.bl (b c))) z = some o := fun z o hz => by
            rw [upd_ne (ne_of_none (by rw [upd_ne (ne_of_none hz nq)]; exact hz) np), upd_ne (ne_of_none hz nq)]
            exact hz
          refine ⟨p, pre ++ c1.map fun c => V.bl (b c), ?_, ?_, upd_same, by rw [List.length_append, List.length_map]; omega, by rw [List.length_set]; exact h2l, fun p2 H2 k2 hp2 => fin p2 H2 (fun z o hz => k2 z o (kp z o hz)) ?_⟩
          · rw [List.getElem?_set_ne (by decide)]
            exact s0
          · rw [List.getElem?_set_self (by omega)]
          · rw [List.map_append, ← List.append_assoc]
            exact hp2
        · cases h
      · cases h
    · cases h
end
/-! ### the def that is given a lambda: what is told, or the word of the refusal -/
def strsE : List Expr → Option (List Str)
  | [] => some []
  | .Constant (.str s) _ _ :: r => (strsE r).map (s :: ·)
  | _ => none
theorem pa_strsE {X : Cx} : ∀ {es : List Expr} {ws : List Str}, strsE es = some ws → PA X es (fun _ H Q => Q (ws.map V.str) H)
  | [], ws, h => by cases h; exact pa_nil
  | .Constant (.str s) k p :: r, ws, h => by
    unfold strsE at h
    obtain ⟨x, h1, rfl⟩ := Option.map_eq_some_iff.mp h
    exact (pa_cons pe_str (pa_strsE h1)).imp fun σ H Q h => h
/-- what the words say: of the class c the marks are cs, of which one alone is true, and its word -/
def saidC (cs : List Nat) (ws : List Str) (sub : Nat → Nat → Bool) (w : Nat → Option Str) (n : Nat) : Bool := (List.range n).all fun c => match w c with
  | none => true
  | some z => SeqAt.shaped (.list (cs.map fun d => PyData.bool (sub c d))) && (decide (((cs.map fun d => PyData.bool (sub c d)).countP fun y => PyData.eqv y (.bool true)) = 1) && (match (cs.map fun d => PyData.bool (sub c d)).findIdx? (fun y => PyData.eqv y (.bool true)) with
    | some j => (match ws[j]? with
      | some x => decide (("! " : Str) ++ x = z) && decide (x.length ≤ 100)
      | none => false)
    | none => false))
theorem dp_bools {K : PySem.W.Frag} {H : Hp} {p : Addr} {bs : List Bool} (h : H p = some (.lst (bs.map V.bl))) : Dp K H (.ref p) (.list (bs.map PyData.bool)) := by
  refine .lst (.inl (.inl h)) ?_
  clear h
  induction bs with
  | nil => exact .nil
  | cons b r ih => exact .cons (.bl b) ih
section
variable {X : Cx} {a : Ad} {T : Tb} {glb : List (Str × Sy)} {w : Nat → Option Str} {sub : Nat → Nat → Bool} {cs : List Nat} {n : Nat}
/-- the promise of the def that tells the marks -/
def spMarks (K : PySem.W.Frag) (a : Ad) (n : Nat) (cs : List Nat) (sub : Nat → Nat → Bool) : Addr → Obj → Sp := fun e oe vs H Q _ => ∃ c, vs = [.ref e] ∧ c < n ∧ Zc (.ref (a.X c)) none oe ∧ (∃ us, oe.data = .fields us) ∧ ∀ p H', (∀ z o, H z = some o → H' z = some o) → H' p = some (.lst (cs.map fun d => V.bl (sub c d))) → Q (.ref p) H'
theorem fn_marks {P : Program} {wd : World} {K : PySem.W.Frag} {mg : Str → Option Value} {base : Heap} {f : Addr} {name qual : Str} {params : Arguments} {body : List Stmt} {scope : Scope} {dV kV doc pm cdv ct oc : Value} {an od : Option Addr} {osl : Array (Option Value)} {ev mv : Str}
    (lk : K.lookup f = some ⟨oc, od, .func (PySem.W.fnOf name qual params body scope dV kV doc pm an cdv ct), osl⟩) (hcd : PySem.W.codeIn K cdv qual = true) (S : FnScope [ev, mv] [ev] scope) (hm : marksOf glb scope ev mv body = some cs) (hn : ∀ c ∈ cs, c < n) (hl : cs.length ≤ 900)
    (hsym : ∀ X : Cx, X.K = K → X.mg = mg → ∀ x s, glb.lookup x = some s → SymOk X a T x s) (ek : ∀ c, c < n → ExcK K a (a.X c) (sub c) n) (vis : Vis scope ev ∧ Vis scope mv ∧ L2.Loc scope mv) (nm : (ev == ("__debug__" : Str)) = false ∧ (ev == ("__classdict__" : Str)) = false ∧ (mv == ("__debug__" : Str)) = false ∧ (mv == ("__classdict__" : Str)) = false) :
    FnE P wd K mg base (L2N.CX P wd) 1 f (PySem.W.fnOf name qual params body scope dV kV doc pm an cdv ct) [ev] (spMarks K a n cs sub) := by
  refine fn_ofE (N := [ev, mv]) lk hcd S (fun e oe vs H Q E ⟨c, h, _⟩ => by rw [h]; rfl) fun A outer s H vs Q E e oe hot hr ⟨c, hv, hc, hz, hf, fin⟩ => ?_
  subst hv
  unfold marksOf at hm
  split at hm
  · rename_i t pt es pl pa r
    split at hm
    · rename_i ht
      subst ht
      split at hm
      · rename_i c1 c2 h1 h2
        cases hm
        have args := pa_isis (X := cxH (L2N.CX P wd) P wd K mg base [ev, t] qual scope f cdv A outer s H E (e, oe)) (hsym _ rfl rfl) rfl rfl vis.1 nm.1 nm.2.1 (List.mem_singleton.mpr rfl) hz hf (ek c hc) h1 fun d hd => hn d (List.mem_append_left _ hd)
        have rest := pss_marks (X := cxH (L2N.CX P wd) P wd K mg base [ev, t] qual scope f cdv A outer s H E (e, oe)) (hsym _ rfl rfl) rfl S.nd rfl vis.1 nm.1 nm.2.1 rfl vis.2.2 rfl vis.2.1 nm.2.2.1 nm.2.2.2 (List.mem_singleton.mpr rfl) hz hf (ek c hc) h2 fun d hd => hn d (List.mem_append_right _ hd)
        rw [List.length_append] at hl
        refine ⟨_, pss_cons (ps_set (i := 1) S.nd rfl vis.2.2 (pe_lst args) (by rfl) (.inl rfl)) rest, ?_⟩
        refine ⟨rfl, by rw [List.length_map, sizeLine_eq]; omega, fun l nl => ?_⟩
        refine ⟨l, c1.map fun d => V.bl (sub c d), rfl, rfl, upd_same, by rw [List.length_map]; omega, Nat.le_refl 2, fun p H' kp hp => fin p H' (fun z o hz => kp z o (by rw [upd_ne (ne_of_none hz nl)]; exact hz)) ?_⟩
        rw [List.map_append]
        exact hp
      · cases hm
    · cases hm
  · cases hm
end
end En
end

section
set_option maxRecDepth 100000
set_option maxHeartbeats 4000000
/-! SE: the def that is given a lambda: what it told, or the word of its refusal. -/
namespace En
open PySem PySem.Spec PyProof.Rows L2 L2H
/-- the names of such a def, by their slots 0 to 4, and of the def that tells the marks -/
structure SaidN where
  c : Str
  e : Str
  f : Str
  w : Str
  m : Str
  k : Str
  /-- the parameter of the other def -/
  p : Str
def endsB (ap cp : Pos) : Bool := ap.endLine == cp.line
def tailSh (n : SaidN) (sc : Scope) : List Stmt → Bool
  | [.Assign [.Name t _] (.Call (.Name mk _) [.Name e _] [] _) _,
     .If (.BoolOp .Or [.Compare (.Call (.Attribute (.Name m1 _) cnt ap) [.Constant (.bool b1) _ _] [] cp) [.NotEq] [.Constant (.int i1) _ _] _, .UnaryOp .Not (.Call (.Name isi _) [.Name e2 _, .Name ve _] [] _) _] _) [.Return (some (.Constant (.str _) _ _)) _] [] _,
     .Return (some (.BinOp (.Constant (.str pre) _ _) .Add (.Subscript (.Name w2 _) (.Call (.Attribute (.Name m2 _) ix ap2) [.Constant (.bool b2) _ _] [] cp2) _) _)) _] =>
      decide (t = n.m) && (decide (mk = n.k) && (decide (e = n.e) && (decide (m1 = n.m) && (decide (cnt = "count") && (b1 && (decide (i1 = 1) && (decide (isi = "isinstance") && (decide (e2 = n.e) && (decide (ve = "ValueError") &&
      (decide (pre = "! ") && (decide (w2 = n.w) && (decide (m2 = n.m) && (decide (ix = "index") && (b2 && (endsB ap cp && (endsB ap2 cp2 && (gloB sc mk && (gloB sc isi && gloB sc ve))))))))))))))))))
  | _ => false
def wordSh (n : SaidN) (sc : Scope) : List Stmt → List Str → Option (List Str)
  | .Assign [.Name t _] (.BinOp (.Name m _) .Add (.List es _) _) _ :: r, ws => if t = n.w ∧ m = n.w then (match strsE es with
    | some x => wordSh n sc r (ws ++ x)
    | none => none) else none
  | st, ws => if tailSh n sc st then some ws else none
def suiteSh (n : SaidN) (sc : Scope) : List Stmt → Option (List Str)
  | .Assign [.Name t _] (.List es _) _ :: r => if t = n.w then (match strsE es with
    | some x => wordSh n sc r x
    | none => none) else none
  | _ => none
section
variable {Y : Cx} {a : Ad} {w : Nat → Option Str} {sub : Nat → Nat → Bool} {cs : List Nat} {ws : List Str} {nx : Nat} {n : SaidN} {e : Addr} {oe : Obj} {c : Nat} {z : Str} {fm : Addr} {fd : FuncData} {sc : Scope}
/-- what is asked of the place -/
structure SaidY (Y : Cx) (a : Ad) (sub : Nat → Nat → Bool) (cs : List Nat) (nx : Nat) (n : SaidN) (e : Addr) (oe : Obj) (c : Nat) (fm : Addr) (fd : FuncData) (sc : Scope) : Prop where
  hsc : Y.env.scope = sc
  nm : Y.N = [n.c, n.e, n.f, n.w, n.m]
  nd : Y.N.Nodup
  loc : ∀ y ∈ Y.N, Y.env.scope.names.lookup y = some .local
  vis : ∀ y ∈ Y.N, Vis Y.env.scope y ∧ (y == ("__debug__" : Str)) = false ∧ (y == ("__classdict__" : Str)) = false
  fn : ∀ y, Y.fn y = true
  hot : Hot1 Y.A (e, oe)
  pn : (e, oe) ∈ Y.pn
  hz : Zc (.ref (a.X c)) none oe
  hf : ∃ vs, oe.data = .fields vs
  hc : c < nx
  ek : ExcK Y.K a (a.X c) (sub c) nx
  room : RoomH 1 Y.A
  hmk : Y.mg n.k = some (.ref fm)
  keep : PySem.W.keepIn Y.K (.ref fm) = true
  bind : Binds Y.K fd [n.p] []
  F : FnE Y.prog Y.w Y.K Y.mg Y.base (L2N.CX Y.prog Y.w) 1 fm fd [n.p] (spMarks Y.K a nx cs sub)
  isi : Y.mg "isinstance" = none
  ve : Y.mg "ValueError" = none
/-- what the suite asks, the words at l -/
def TailT (e : Addr) (ws : List Str) (z : Str) : TS := fun Tz σ H => ∃ l, σ[1]? = some (some (.ref e)) ∧ σ[3]? = some (some (.ref l)) ∧ H l = some (.lst (ws.map V.str)) ∧ 4 < σ.length ∧ ∀ H', (∀ b o, H b = some o → H' b = some o) → Tz.rt (.str z) H'
theorem said_c {cs : List Nat} {ws : List Str} (h : saidC cs ws sub w nx = true) (hc : c < nx) (hw : w c = some z) : SeqAt.shaped (.list (cs.map fun d => PyData.bool (sub c d))) = true ∧ ((cs.map fun d => PyData.bool (sub c d)).countP fun y => PyData.eqv y (.bool true)) = 1 ∧
    ∃ j x, (cs.map fun d => PyData.bool (sub c d)).findIdx? (fun y => PyData.eqv y (.bool true)) = some j ∧ ws[j]? = some x ∧ ("! " : Str) ++ x = z ∧ x.length ≤ 100 := by
  unfold saidC at h
  rw [List.all_eq_true] at h
  have h := h c (List.mem_range.mpr hc)
  rw [hw] at h
  simp only [Bool.and_eq_true, decide_eq_true_eq] at h
  obtain ⟨h1, h2, h3⟩ := h
  refine ⟨h1, h2, ?_⟩
  split at h3
  · rename_i j hj
    split at h3
    · rename_i x hx
      rw [Bool.and_eq_true] at h3
      exact ⟨j, x, hj, hx, of_decide_eq_true h3.1, of_decide_eq_true h3.2⟩
    · cases h3
  · cases h3
theorem atI_nat {α : Type} {xs : List α} {j : Nat} {x : α} (h : xs[j]? = some x) : atI xs (j : Int) = some x := by
  obtain ⟨h1, _⟩ := List.getElem?_eq_some_iff.mp h
  unfold atI ixN
  rw [if_pos (Int.natCast_nonneg j), if_pos (by exact_mod_cast h1)]
  exact h
theorem pss_tail (S : SaidY Y a sub cs nx n e oe c fm fd sc) (hw : w c = some z) (hs : saidC cs ws sub w nx = true) {st : List Stmt} (h : tailSh n sc st = true) : PSs Y st (TailT e ws z) := by
  unfold tailSh at h
  split at h
  · rename_i t tp mk mp e1 ep cp1 ap1 m1 m1p cnt ap b1 b1k b1p cp i1 i1k i1p cmp isi isp e2 e2p ve vep icp np orp so sok sop rp ifp pre prek prep w2 w2p m2 m2p ix ap2 b2 b2k b2p cp2 sbp bop r2p
    simp only [Bool.and_eq_true, decide_eq_true_eq] at h
    obtain ⟨rfl, rfl, rfl, rfl, rfl, rfl, rfl, rfl, rfl, rfl, rfl, rfl, rfl, rfl, rfl, l1, l2, g1, g2, g3⟩ := h
    obtain ⟨k1, k2, k3⟩ := gloOf S.hsc g1
    obtain ⟨k4, k5, k6⟩ := gloOf S.hsc g2
    obtain ⟨k7, k8, k9⟩ := gloOf S.hsc g3
    obtain ⟨v1, v2, v3⟩ := S.vis n.e (by rw [S.nm]; simp)
    obtain ⟨v4, v5, v6⟩ := S.vis n.w (by rw [S.nm]; simp)
    obtain ⟨v7, v8, v9⟩ := S.vis n.m (by rw [S.nm]; simp)
    have n1 : Y.N[1]? = some n.e := by rw [S.nm]; rfl
    have n3 : Y.N[3]? = some n.w := by rw [S.nm]; rfl
    have n4 : Y.N[4]? = some n.m := by rw [S.nm]; rfl
    have hu : Y.A.units + 65 < cLine := by have := S.room.un; omega
    obtain ⟨c1, c2, j, x, c3, c4, c5, c6⟩ := said_c hs S.hc hw
    have call : PE Y (.Call (.Name n.k mp) [.Name n.e ep] [] cp1) (tCallS (spMarks Y.K a nx cs sub e oe) (fun _ _ _ _ => False) _) :=
      pe_callE S.F S.room S.hot S.pn k1 S.hmk S.keep S.bind (fun σ pins H s u s' I q => by obtain ⟨_, _, _, _, _, _, _, _, _, _, _, _, q⟩ := q; exact q.elim) (pa_cons (pe_var (i := 1) n1 v1 v2 v3) pa_nil) k2
    have cnt : PE Y (.Call (.Attribute (.Name n.m m1p) "count" ap) [.Constant (.bool true) b1k b1p] [] cp) _ :=
      pe_bm PySem.F.plainAttrs_list PySem.F.slot_list_count PySem.F.type_list_count (mt_cntD hu) (pe_var (i := 4) n4 v7 v8 v9) (pa_cons pe_bl pa_nil) (by rfl) (by rfl) l1
    have idx : PE Y (.Call (.Attribute (.Name n.m m2p) "index" ap2) [.Constant (.bool true) b2k b2p] [] cp2) _ :=
      pe_bm PySem.F.plainAttrs_list PySem.F.slot_list_index PySem.F.type_list_index (mt_indexD hu) (pe_var (i := 4) n4 v7 v8 v9) (pa_cons pe_bl pa_nil) (by rfl) (by rfl) l2
    have isv : PE Y (.Call (.Name "isinstance" isp) [.Name n.e e2p, .Name "ValueError" vep] [] icp) _ :=
      pe_callB (call_isP (X := Y) S.pn S.ek.ec S.hz S.hf) k4 S.isi (boot_bi .isinstance) (pa_cons (pe_var (i := 1) n1 v1 v2 v3) (pa_cons (pe_bltn (v := .ty "ValueError") k7 S.ve (u := .type "ValueError") (by rfl) rfl k9 k8) pa_nil)) k6 k5
    have tst := (pw_or (pos := orp) (pt_cmpR (pos := cmp) op_ne cnt (pe_int (i := 1) (j := i1k) (pos := i1p)) (by rfl)) (pw_or1 (pt_not (pos := np) (pt_val isv)))).pt
    refine PSs.imp (pss_cons (ps_set (i := 4) S.nd n4 (.inl (S.loc n.m (by rw [S.nm]; simp))) call (by rfl) (.inl (S.fn _))) (pss_cons (ps_if tst (pss_one (ps_ret pe_str)) pss_nil) (pss_one (ps_ret (pe_op op_add_str pe_str (pe_ix ix_list (pe_var (i := 3) n3 v4 v5 v6) idx (fun _ _ => by rfl))))))) ?_
    intro Tz σ H ⟨l, s1, s3, hl, s5, fin⟩
    refine ⟨_, s1, c, rfl, S.hc, S.hz, S.hf, fun p H' kp hp => ?_⟩
    have d1 : Dp Y.K H' (.ref p) (.list (cs.map fun d => PyData.bool (sub c d))) := by
      have := dp_bools (K := Y.K) (H := H') (p := p) (bs := cs.map fun d => sub c d) (by rw [hp, List.map_map]; rfl)
      rw [List.map_map] at this
      exact this
    have d2 : Dp Y.K H' (.bl true) (.bool true) := .bl true
    have s4 : (σ.set 4 (some (V.ref p)))[4]? = some (some (.ref p)) := List.getElem?_set_self (by omega)
    have s3' : (σ.set 4 (some (V.ref p)))[3]? = some (some (.ref l)) := by rw [List.getElem?_set_ne (by decide)]; exact s3
    have s1' : (σ.set 4 (some (V.ref p)))[1]? = some (some (.ref e)) := by rw [List.getElem?_set_ne (by decide)]; exact s1
    have ty : tyV Y.K "list" (.ref p) H' := .inl ⟨rfl, _, .inl (.inl hp)⟩
    refine ⟨_, s4, ty, p, .bl true, _, _, rfl, rfl, d1, d2, c1, rfl, ?_⟩
    rw [c2]
    refine ⟨rfl, false, rfl, ?_⟩
    refine ⟨_, s1', .ty "ValueError", _, true, rfl, fun u hu => hu, S.ek.ve, true, rfl, ?_⟩
    obtain ⟨f1, f2, f3⟩ := List.findIdx?_eq_some_iff_getElem.mp c3
    refine ⟨_, s3', _, s4, ty, p, .bl true, _, _, j, _, rfl, rfl, d1, d2, c1, rfl, List.getElem?_eq_getElem f1, f2, fun m z' hm hz' => ?_, ?_⟩
    · obtain ⟨q1, q2⟩ := List.getElem?_eq_some_iff.mp hz'
      rw [← q2]
      exact Bool.eq_false_iff.mpr (f3 m hm)
    · refine ⟨l, ws.map V.str, j, .str x, rfl, rfl, .inl (.inl (kp _ _ hl)), atI_nat (by rw [List.getElem?_map, c4]; rfl), "! ", x, rfl, rfl, ?_, ?_⟩
      · rw [sizeLine_eq]
        have : (("! " : Str)).length = 2 := rfl
        omega
      · rw [c5]
        exact fin H' kp
  · cases h

theorem word_len : ∀ {r : List Stmt} {pre ws : List Str}, wordSh n sc r pre = some ws → pre.length ≤ ws.length := by
  intro r
  induction r with
  | nil =>
    intro pre ws h
    unfold wordSh at h
    split at h
    · cases h; exact Nat.le_refl _
    · cases h
  | cons s1 r2 ih2 =>
    intro pre ws h
    unfold wordSh at h
    split at h
    · rename_i q
      cases q
      split at h
      · split at h
        · have := ih2 h
          rw [List.length_append] at this
          omega
        · cases h
      · cases h
    · split at h
      · cases h; exact Nat.le_refl _
      · cases h
theorem pss_words (S : SaidY Y a sub cs nx n e oe c fm fd sc) (hw : w c = some z) : ∀ {st : List Stmt} {pre : List Str}, wordSh n sc st pre = some ws → ws.length ≤ 900 → saidC cs ws sub w nx = true → PSs Y st (TailT e pre z) := by
  intro st
  induction st with
  | nil =>
    intro pre h hl hs
    unfold wordSh tailSh at h
    cases h
  | cons s0 r ih =>
    intro pre h hl hs
    have key := @word_len n sc
    unfold wordSh at h
    split at h
    · rename_i pre _ _ t tp m mp es lp bp ap r' q
      cases q
      split at h
      · rename_i hn
        obtain ⟨rfl, rfl⟩ := hn
        split at h
        · rename_i x hx
          have k := key h
          rw [List.length_append] at k
          obtain ⟨v4, v5, v6⟩ := S.vis n.w (by rw [S.nm]; simp)
          have n3 : Y.N[3]? = some n.w := by rw [S.nm]; rfl
          refine PSs.imp (pss_cons (ps_set (i := 3) S.nd n3 (.inl (S.loc n.w (by rw [S.nm]; simp))) (pe_op op_cat (pe_var (i := 3) n3 v4 v5 v6) (pe_lst (pa_strsE hx))) (by rfl) (.inl (S.fn _))) (ih h hl hs)) fun Tz σ H ⟨l, s1, s3, hl2, s5, fin⟩ => ?_
          refine ⟨_, s3, by rw [List.length_map, sizeLine_eq]; omega, fun q nq => ?_⟩
          refine ⟨l, q, pre.map V.str, x.map V.str, rfl, rfl, by rw [upd_ne (ne_of_none hl2 nq)]; exact hl2, upd_same, by rw [List.length_map, List.length_map, sizeLine_eq]; omega, fun p np => ?_⟩
          have kp : ∀ b o, H b = some o → upd (upd H q (.lst (x.map V.str))) p (.lst (pre.map V.str ++ x.map V.str)) b = some o := fun b o hb => by
            rw [upd_ne (ne_of_none (by rw [upd_ne (ne_of_none hb nq)]; exact hb) np), upd_ne (ne_of_none hb nq)]
            exact hb
          refine ⟨p, ?_, ?_, ?_, ?_, fun H' k2 => fin H' fun b o hb => k2 b o (kp b o hb)⟩
          · rw [List.getElem?_set_ne (by decide)]; exact s1
          · exact List.getElem?_set_self (by omega)
          · rw [List.map_append]; exact upd_same
          · rw [List.length_set]; exact s5
        · cases h
      · cases h
    · split at h
      · rename_i ht
        cases h
        exact pss_tail S hw hs ht
      · cases h
theorem pss_suite (S : SaidY Y a sub cs nx n e oe c fm fd sc) (hw : w c = some z) {st : List Stmt} (h : suiteSh n sc st = some ws) (hl : ws.length ≤ 900) (hs : saidC cs ws sub w nx = true) :
    PSs Y st (fun Tz σ H => σ[1]? = some (some (.ref e)) ∧ 4 < σ.length ∧ ∀ H', (∀ b o, H b = some o → H' b = some o) → Tz.rt (.str z) H') := by
  have key := @word_len n sc
  unfold suiteSh at h
  split at h
  · rename_i t tp es lp ap r
    split at h
    · rename_i hn
      subst hn
      split at h
      · rename_i x hx
        have k := key h
        have n3 : Y.N[3]? = some n.w := by rw [S.nm]; rfl
        refine PSs.imp (pss_cons (ps_set (i := 3) S.nd n3 (.inl (S.loc n.w (by rw [S.nm]; simp))) (pe_lst (pa_strsE hx)) (by rfl) (.inl (S.fn _))) (pss_words S hw h hl hs)) fun Tz σ H ⟨s1, s5, fin⟩ => ?_
        refine ⟨by rw [List.length_map, sizeLine_eq]; omega, fun q nq => ⟨q, ?_, ?_, upd_same, ?_, fun H' k2 => fin H' fun b o hb => k2 b o (by rw [upd_ne (ne_of_none hb nq)]; exact hb)⟩⟩
        · rw [List.getElem?_set_ne (by decide)]; exact s1
        · exact List.getElem?_set_self (by omega)
        · rw [List.length_set]; exact s5
      · cases h
    · cases h
  · cases h
end
end En
end

section
set_option maxRecDepth 100000
set_option maxHeartbeats 4000000
/-! SF: said, of a row. -/
namespace En
open PySem PySem.Spec PyProof.Rows L2 L2H
theorem PSs.len {X : Cx} {b : List Stmt} {t : TS} (h : PSs X b t) : PSs X b (fun D σ H => σ.length = X.N.length → t D σ H) := ⟨fun pins s σ H D I q => h.run pins s σ H D I (q I.len)⟩
/-- the def's own body: the exception class that it catches, and its words -/
def saidSh (n : SaidN) (glb : List (Str × Sy)) (sc : Scope) : List Stmt → Option (Nat × List Str)
  | [.Try [.Assign [.Name f1 _] (.Call (.Name c1 _) [] [] _) _] [.ExceptHandler (some (.Name xe _)) (some e1) suite _] [] [] _, .Return (some (.Call (.Name r1 _) [.Name f2 _] [] _)) _] => (match glb.lookup xe, glb.lookup r1 with
    | some (.exc cF), some (.bi .repr) => if f1 = n.f ∧ c1 = n.c ∧ e1 = n.e ∧ f2 = n.f ∧ gloB sc xe = true ∧ gloB sc r1 = true then (suiteSh n sc suite).map fun ws => (cF, ws) else none
    | _, _ => none)
  | _ => none
def slotB (sc : Scope) (y : Str) : Bool := decide (sc.names.lookup y = some .local) && (!(y == ("__debug__" : Str)) && !(y == ("__classdict__" : Str)))
section
variable {K : PySem.W.Frag} {mg : Str → Option Value} {a : Ad} {T : Tb} {w : Nat → Option Str} {sub : Nat → Nat → Bool} {cs : List Nat} {ws : List Str} {nx cF : Nat} {n : SaidN} {glb : List (Str × Sy)} {x : Str} {sc : Scope} {body : List Stmt}
theorem suite_cons {n : SaidN} {sc : Scope} {st : List Stmt} {ws : List Str} (h : suiteSh n sc st = some ws) : ∃ b r, st = b :: r := by
  cases st with
  | nil => unfold suiteSh at h; cases h
  | cons b r => exact ⟨b, r, rfl⟩
theorem gives_said (hsym : ∀ X : Cx, X.K = K → X.mg = mg → ∀ x s, glb.lookup x = some s → SymOk X a T x s) (hb : saidSh n glb sc body = some (cF, ws)) (hws : ws.length ≤ 900) (hs : saidC cs ws sub w nx = true) (hwn : ∀ c z, w c = some z → c < nx ∧ sub c cF = true)
    (hsub : ∀ c, c < nx → PySem.W.exmOne K (.ref (a.X c)) (.ref (a.X cF)) = some (sub c cF)) (ek : ∀ c, c < nx → ExcK K a (a.X c) (sub c) nx) (fs : FnScope [n.c, n.e, n.f, n.w, n.m] [n.c] sc) (sl : ∀ y ∈ [n.c, n.e, n.f, n.w, n.m], slotB sc y = true)
    {fm : Addr} {fd : FuncData} (hmk : mg n.k = some (.ref fm)) (keep : PySem.W.keepIn K (.ref fm) = true) (bind : Binds K fd [n.p] []) (F : ∀ (P : Program) (wd : World) (base : Heap), FnE P wd K mg base (L2N.CX P wd) 1 fm fd [n.p] (spMarks K a nx cs sub)) (isi : mg "isinstance" = none) (ve : mg "ValueError" = none)
    {g : Addr} {cdv : Value} {q : Str} {X : Cx} (hK : X.K = K) (hm : X.mg = mg) (hg : X.A.guards = some []) (hr : Room 3 X.A) : GivesN X [n.c, n.e, n.f, n.w, n.m] x sc g cdv body n.c q (TTs K a w) := by
  intro f c' s H Q tl hrule hco htt
  unfold saidSh at hb
  split at hb
  · rename_i f1 f1p c1 c1p clp asp xe xep e1 suite hp trp r1 r1p f2 f2p rp rtp
    split at hb
    · rename_i cF' h1 h2
      split at hb
      · rename_i hc
        obtain ⟨rfl, rfl, rfl, rfl, g1, g2⟩ := hc
        obtain ⟨ws', hw1, e9⟩ := Option.map_eq_some_iff.mp hb
        cases e9
        obtain ⟨b0, bs, rfl⟩ := suite_cons hw1
        generalize hXg : gotN X [n.c, n.e, n.f, n.w, n.m] x sc g cdv s H (fun _ _ _ => False) = Xg at hrule ⊢
        have xK : Xg.K = K := by rw [← hXg]; exact hK
        have xm : Xg.mg = mg := by rw [← hXg]; exact hm
        have xs : Xg.stack = Xg.env :: Xg.outer := by rw [← hXg]; rfl
        have xf : Xg.env.frame = some Xg.env.locals := by rw [← hXg]; rfl
        have xsc : Xg.env.scope = sc := by rw [← hXg]; rfl
        have xN : Xg.N = [n.c, n.e, n.f, n.w, n.m] := by rw [← hXg]; rfl
        have xfn : ∀ y, Xg.fn y = true := by rw [← hXg]; exact fun _ => rfl
        have xg : Xg.A.guards = some [] := by rw [← hXg]; exact hg
        have xr : Room 2 Xg.A := by rw [← hXg]; exact hr.deeper _
        have tk : L2N.Takes Xg (fun cls d _ H => False) := by rw [← hXg]; exact L2N.takes_of rfl rfl rfl rfl
        have vis : ∀ y ∈ Xg.N, Xg.env.scope.names.lookup y = some .local ∧ (y == ("__debug__" : Str)) = false ∧ (y == ("__classdict__" : Str)) = false := fun y hy => by
          have := sl y (by rw [← xN]; exact hy)
          unfold slotB at this
          simp only [Bool.and_eq_true, decide_eq_true_eq, Bool.not_eq_true'] at this
          rw [xsc]
          exact this
        have xnd : Xg.N.Nodup := by rw [xN]; exact fs.nd
        obtain ⟨v1, v2, v3⟩ := vis n.f (by rw [xN]; simp)
        obtain ⟨v4, v5, v6⟩ := vis n.e (by rw [xN]; simp)
        obtain ⟨k1, k2, k3⟩ := gloOf (X := Xg) xsc g1
        obtain ⟨k4, k5, k6⟩ := gloOf (X := Xg) xsc g2
        obtain ⟨y1, _⟩ := hsym Xg xK xm xe _ h1
        obtain ⟨y2, y3⟩ := hsym Xg xK xm r1 _ h2
        subst y2
        -- the suite
        have suiteR : ∀ (e : Addr) (oe : Obj) (cls : Value) (d : Option Addr) (pn : List (Addr × Obj)), L2N.Zn cls d oe → (∃ vs, oe.data = .fields vs) → PSs (Xg.suite e ((e, oe) :: pn)) (b0 :: bs)
            (fun Tz σ H => ∃ c z, cls = .ref (a.X c) ∧ d = none ∧ w c = some z ∧ (σ.length = 5 → σ[1]? = some (some (.ref e))) ∧ ∀ H', (∀ b o, H b = some o → H' b = some o) → Tz.rt (.str z) H') := by
          intro e oe cls d pn zn hf
          refine ⟨fun pins s σ H D I h => ?_⟩
          obtain ⟨c, z, rfl, rfl, hw, s1, fin⟩ := h
          have S : SaidY (Xg.suite e ((e, oe) :: pn)) a sub cs nx n e oe c fm fd sc := {
            hsc := xsc
            nm := xN
            nd := xnd
            loc := fun y hy => (vis y hy).1
            vis := fun y hy => ⟨.inl (vis y hy).1, (vis y hy).2⟩
            fn := xfn
            hot := ⟨rfl, by obtain ⟨vs, hv⟩ := hf; exact ⟨vs, hv, zn.2.2 vs hv⟩⟩
            pn := List.mem_cons_self
            hz := zn.zc
            hf := hf
            hc := (hwn c z hw).1
            ek := by
              show ExcK Xg.K a (a.X c) (sub c) nx
              rw [xK]
              exact ek c (hwn c z hw).1
            room := ⟨by have := (xr.mono (Nat.le_succ 1)).dp; exact this, by have := (xr.mono (Nat.le_succ 1)).un; exact this⟩
            hmk := by
              show Xg.mg n.k = _
              rw [xm]; exact hmk
            keep := by
              show PySem.W.keepIn Xg.K _ = true
              rw [xK]; exact keep
            bind := by
              show Binds Xg.K fd [n.p] []
              rw [xK]; exact bind
            F := by
              show FnE Xg.prog Xg.w Xg.K Xg.mg Xg.base _ 1 fm fd [n.p] (spMarks Xg.K a nx cs sub)
              rw [xK, xm]; exact F _ _ _
            isi := by
              show Xg.mg _ = none
              rw [xm]; exact isi
            ve := by
              show Xg.mg _ = none
              rw [xm]; exact ve }
          refine (PSs.len (pss_suite S hw hw1 hws hs)).run pins s σ H D I fun hl => ?_
          have hl : σ.length = 5 := by rw [hl]; show Xg.N.length = 5; rw [xN]; rfl
          exact ⟨s1 hl, by omega, fin⟩
        have tryR := L2N.ps_try_as (X := Xg) (np := xep) (pos := trp) (pos' := hp) (i := 1) (n := n.e) (x := xe) (c := .ref (a.X cF)) (Wout := fun _ _ _ _ => False) (body := [.Assign [.Name n.f f1p] (.Call (.Name n.c c1p) [] [] clp) asp])
          (tb := fun W D σ H => ∃ (E : XK) (Q0 : VK), (∀ cls d σ' H', E cls d H' → W cls d σ' H') ∧ σ[0]? = some (some (.ref f)) ∧ H c' = some (LamX.CodeO c' q) ∧ tl E H Q0 ∧ ∀ v H1, Q0 v H1 → D.nx (σ.set 2 (some v)) H1)
          xs xf xnd (by rw [xN]; rfl) v4 ⟨k1, k2, .inl y1⟩ tk (fun W pn xe2 tk2 po => ?_) suiteR
        · have hu : Xg.A.units + 65 < cLine := by have := xr.un; omega
          refine ⟨_, pss_cons tryR (pss_one (ps_ret (pe_callB (cr_repr hu xg) k4 y3 (boot_bi .repr) (pa_cons (pe_var (i := 2) (by rw [xN]; rfl) (.inl v1) v2 v3) pa_nil) k6 k5))), ?_⟩
          refine ⟨_, _, ?hE, rfl, hco, htt, ?hq⟩
          · intro cls d σ' H' ⟨c, z, e1, e2, e3, fin⟩
            subst e1
            refine ⟨true, ?_, fun _ z2 hz2 => ⟨c, z, rfl, e2, e3, fun hl => ?_, fin⟩, fun h => by cases h⟩
            · rw [xK, hsub c (hwn c z e3).1, (hwn c z e3).2]
            · rw [List.length_set] at hl
              exact List.getElem?_set_self (by omega)
          · intro v H1 ⟨x, d1, d2, fin⟩
            exact ⟨v, rfl, v, x, rfl, by rw [xK]; exact d1, d2, fin H1 fun _ _ h => h⟩
        · refine PSs.imp (pss_one (ps_set (i := 2) (te := fun σ H Q => ∃ (E : XK) (Q0 : VK), (∀ cls d σ' H', E cls d H' → W cls d σ' H') ∧ σ[0]? = some (some (.ref f)) ∧ H c' = some (LamX.CodeO c' q) ∧ tl E H Q0 ∧ ∀ v H1, Q0 v H1 → Q v H1) xnd (by show Xg.N[2]? = _; rw [xN]; rfl) (.inl v1)
            ⟨fun pins s σ H Q I ⟨E, Q0, hE, r1, r2, r3, hq⟩ => wpAny_mono ((hrule W pn xe2 E _ _ tk2 hE).run pins s σ H Q0 I ⟨r1, r2, r3⟩) (fun v s1 ⟨y, H1, I1, r, q⟩ => ⟨y, H1, I1, r, hq _ _ q⟩) (fun _ _ x => x)⟩ (by rfl) (.inl (xfn _)))) fun D σ H h => h
      · cases hb
    · cases hb
  · cases hb
end
def noSaid (p : Str × Sy) : Bool := match p.2 with
  | .said _ => false
  | _ => true
namespace Rw
variable (rw : Rw)
def glbN : List (Str × Sy) := rw.glb.filter noSaid
/-- what is asked of the two defs -/
def saidB (n : SaidN) (x : Str) (fS fM : Nat) (w : Nat → Option Str) : Bool := match rw.fd[fS]?, rw.fd[fM]? with
  | some eS, some eM => (match saidSh n rw.glbN eS.1.scope eS.1.body, eM.2.1, rw.glb.lookup ("isinstance" : Str), rw.glb.lookup n.k with
    | some (cF, ws), [p, mv], some (.bi .isinstance), some (.fn fM') => (match marksOf rw.glbN eM.1.scope p mv eM.1.body with
      | some cs => rw.mks && (decide (fM' = fM) && (decide (eS.1.at_ = (x, none)) && (decide (eS.1.name = x) && (decide (eS.1.qual = x) && (decide (eS.2.1 = [n.c, n.e, n.f, n.w, n.m]) && (decide (psOf eS.1.params = [n.c]) && (decide (psOf eM.1.params = [p]) && (decide (p = n.p) &&
        (decide (ws.length ≤ 900) && (saidC cs ws rw.sub w rw.exn.length && (decide (cF < rw.exn.length) && ((List.range rw.exn.length).all (fun c => (w c).isNone || rw.sub c cF) && (decide (cs.length ≤ 900) && (cs.all (fun c => decide (c < rw.exn.length)) &&
        ([n.c, n.e, n.f, n.w, n.m].all (slotB eS.1.scope) && [p, mv].all (slotB eM.1.scope))))))))))))))))
      | none => false)
    | _, _, _, _ => false)
  | _, _ => false
end Rw
section
variable {P : Program} {wd : World} {K : PySem.W.Frag} {mg : Str → Option Value} {base h : Heap} {rw : Rw}
theorem Rw.saidOk (ok : rw.okB = true) (S : He.SaysX rw.facts (rw.fd.map (·.1)) [] rw.tf rw.exB wd h K) (KX : K.In base) (hns : base.Ns mainGlobals mg) {n : SaidN} {x : Str} {fS fM : Nat} {w : Nat → Option Str} (hx : (x, Sy.said w) ∈ rw.glb) (hB : rw.saidB n x fS fM w = true) (hw : ∀ c z, w c = some z → c < rw.exn.length)
    (hS : ∀ e, rw.fd[fS]? = some e → e.1.dvs K = [] ∧ ∀ (kV doc pm : Value) (an : Option Addr) (cdv ct : Value) (us : List Value), us.length = 1 → bindArgs (PySem.W.fnOf e.1.name e.1.qual e.1.params e.1.body e.1.scope .none kV doc pm an cdv ct) ⟨us, []⟩ = pure ([n.c].zip us))
    (hM : ∀ e, rw.fd[fM]? = some e → e.1.dvs K = [] ∧ ∀ (kV doc pm : Value) (an : Option Addr) (cdv ct : Value) (us : List Value), us.length = 1 → bindArgs (PySem.W.fnOf e.1.name e.1.qual e.1.params e.1.body e.1.scope .none kV doc pm an cdv ct) ⟨us, []⟩ = pure ([n.p].zip us)) :
    SaidOk K mg (rw.ad K) x w := by
  unfold Rw.saidB at hB
  split at hB
  · rename_i eS eM h1 h2
    split at hB
    · rename_i cF ws p mv fM' q1 q2 q3 q4
      split at hB
      · rename_i cs q5
        simp only [Bool.and_eq_true, decide_eq_true_eq] at hB
        obtain ⟨m1, rfl, m2, m3, m4, m5, m6, m7, rfl, m8, m9, m10, m11, m12, m13, m14, m15⟩ := hB
        have more := S.more
        unfold Rw.exB at more
        simp only [Bool.and_eq_true] at more
        have mk := more.1
        rw [m1] at mk
        have mk : rw.mkB K = true := mk
        unfold Rw.mkB at mk
        rw [Bool.and_eq_true] at mk
        obtain ⟨mv1, mk⟩ := mk
        simp only [List.all_eq_true, List.mem_range, Bool.and_eq_true, decide_eq_true_eq] at mk
        have more2 := more.2
        simp only [List.all_eq_true, List.mem_range, Bool.and_eq_true, decide_eq_true_eq] at more2
        have ok2 := ok
        unfold Rw.okB at ok2
        simp only [Bool.and_eq_true, List.all_eq_true] at ok2
        obtain ⟨_, _, _, o4, _⟩ := ok2
        have ek : ∀ c, c < rw.exn.length → ExcK K (rw.ad K) ((rw.ad K).X c) (rw.sub c) rw.exn.length := fun c hc => by
          obtain ⟨a1, a2, a3, a4, a5, a6, a7, a8, a9, a10⟩ := mk c hc
          exact ⟨⟨a1, a2, a3, a4, a5, a6, a7, a8⟩, fun d hd => a10 d hd, a9⟩
        have hsub : ∀ c, c < rw.exn.length → PySem.W.exmOne K (.ref ((rw.ad K).X c)) (.ref ((rw.ad K).X cF)) = some (rw.sub c cF) := fun c hc => more2.2.1 c hc cF m10
        have inN : ∀ x s, rw.glbN.lookup x = some s → (x, s) ∈ rw.glb ∧ ∀ w, s ≠ .said w := fun x s e => by
          have z := lookup_in e
          unfold Rw.glbN at z
          rw [List.mem_filter] at z
          refine ⟨z.1, fun w e2 => ?_⟩
          subst e2
          cases z.2
        have hsym : ∀ X : Cx, X.K = K → X.mg = mg → ∀ x s, rw.glbN.lookup x = some s → SymOk X (rw.ad K) (rw.tb K) x s := fun X hK hm x s e =>
          Rw.symG ok S KX hns X hK hm x s (inN x s e).1 fun w e2 => ((inN x s e).2 w e2).elim
        have FS := Rw.fun_ S h1
        have FM := Rw.fun_ S h2
        obtain ⟨d1, b1⟩ := hS _ h1
        obtain ⟨d2, b2⟩ := hM _ h2
        rw [d1] at FS
        rw [d2] at FM
        have oS := o4 _ (List.mem_of_getElem? h1)
        have oM := o4 _ (List.mem_of_getElem? h2)
        have scS := scopeB_ok oS
        have scM := scopeB_ok oM
        rw [m5, m6] at scS
        rw [q2, m7] at scM
        have bindS := FS.bindsN (ps := [n.c]) b1
        have bindM := FM.bindsN (ps := [n.p]) b2
        have locS : ∀ y, slotB eS.1.scope y = true → eS.1.scope.names.lookup y = some .local ∧ (y == ("__debug__" : Str)) = false ∧ (y == ("__classdict__" : Str)) = false := fun y hy => by
          unfold slotB at hy
          simpa only [Bool.and_eq_true, decide_eq_true_eq, Bool.not_eq_true'] using hy
        have locM : ∀ y, slotB eM.1.scope y = true → eM.1.scope.names.lookup y = some .local ∧ (y == ("__debug__" : Str)) = false ∧ (y == ("__classdict__" : Str)) = false := fun y hy => by
          unfold slotB at hy
          simpa only [Bool.and_eq_true, decide_eq_true_eq, Bool.not_eq_true'] using hy
        rw [List.all_eq_true] at m11 m13 m14 m15
        obtain ⟨l1, l2, l3⟩ := locM n.p (m15 _ List.mem_cons_self)
        obtain ⟨l4, l5, l6⟩ := locM mv (m15 _ (List.mem_cons_of_mem _ List.mem_cons_self))
        obtain ⟨l7, l8, l9⟩ := locS n.c (m14 _ List.mem_cons_self)
        have glo : mg x = some (.ref ((rw.tb K).fa fS)) := by
          rw [(Rw.ps_eq h1).2, m2]
          exact He.glo_ok KX hns (S.t.d.facts (List.mem_append_left _ (List.mem_flatMap.mpr ⟨_, hx, List.mem_singleton.mpr rfl⟩)))
        have dummy : ∀ X : Cx, X.K = K → X.mg = mg → X.mg n.k = some (.ref ((rw.tb X.K).fa fM')) ∧ X.mg "isinstance" = none := fun X hK hm => by
          have z1 := Rw.symG ok S KX hns X hK hm n.k _ (lookup_in q4) fun w e2 => by cases e2
          have z2 := Rw.symG ok S KX hns X hK hm "isinstance" _ (lookup_in q3) fun w e2 => by cases e2
          rw [← hK] at z1
          exact ⟨z1, z2.2⟩
        obtain ⟨oc, od, dV, kV, doc, pm, an, cdv, ct, osl, e1, lk, hcd, _⟩ := FS.ex
        obtain ⟨oc2, od2, dV2, kV2, doc2, pm2, an2, cdv2, ct2, osl2, e2, lk2, hcd2, _⟩ := FM.ex
        rw [e1, m3, m4] at lk bindS
        rw [m4] at hcd
        refine ⟨n.c, (rw.tb K).fa fS, eS.1.params, eS.1.body, eS.1.scope, dV, kV, doc, pm, cdv, ct, oc, an, od, osl, [n.c, n.e, n.f, n.w, n.m], glo, FS.kp, lk, hcd, bindS, scS, rfl, .inl l7, l8, l9, fun X q hK hm hg hr => ?_⟩
        refine gives_said (glb := rw.glbN) (T := rw.tb K) (sub := rw.sub) (nx := rw.exn.length) (cs := cs) (n := n) (fm := (rw.tb K).fa fM') hsym q1 m8 m9 (fun c z hz => ?_) hsub ek scS m14 ?_ FM.kp bindM (fun P wd base => ?_) ?_ ?_ hK hm hg hr
        · refine ⟨hw c z hz, ?_⟩
          have := m11 c (List.mem_range.mpr (hw c z hz))
          rw [hz] at this
          exact this
        · have := (dummy X hK hm).1
          rw [hm, hK] at this
          exact this
        · rw [e2] at lk2 ⊢
          exact fn_marks (glb := rw.glbN) (T := rw.tb K) lk2 hcd2 scM q5 (fun c hc => of_decide_eq_true (m13 c hc)) m12 hsym ek ⟨.inl l1, .inl l4, .inl l4⟩ ⟨l2, l3, l5, l6⟩
        · have := (dummy X hK hm).2
          rw [hm] at this
          exact this
        · exact He.free_ok KX hns mv1
      · cases hB
    · cases hB
  · cases hB
end
end En
end

section
set_option maxRecDepth 100000
set_option maxHeartbeats 2000000
/-! HA: a hook over all objects of the heap; the head from a run in two parts. -/
noncomputable section
namespace En
open PySem PySem.Spec PyProof.Rows L2 PySem.W
abbrev KAll (n : Nat) (g : Addr → Option Obj) : PySem.W.Frag := He.frT g (List.range n)
def obsR (fa : List He.Fa) (fn : List He.DefD) (tf : List He.Defn) (ex : PySem.W.Frag → Bool) (n : Nat) (g : Addr → Option Obj) : He.AlX := (He.obsT fa fn [] (KAll n g), ex (KAll n g) && He.tabsB g tf (KAll n g))
theorem says_all {fa : List He.Fa} {fn : List He.DefD} {tf : List He.Defn} {ex : PySem.W.Frag → Bool} {w : World} {h : Heap} {n : Nat} (e : obsR fa fn tf ex n h.get? = (He.valT fn [] w, true)) :
    He.SaysX fa fn [] tf ex w h (KAll n h.get?) := by
  have e1 := congrArg Prod.fst e
  have e2 := congrArg Prod.snd e
  dsimp only [obsR] at e1 e2
  rw [Bool.and_eq_true] at e2
  have each := fun p hp => Bool.and_eq_true_iff.mp (List.all_eq_true.mp e2.2 p hp)
  have tab : ∀ p ∈ tf, ∃ o, h.get? (He.cT (KAll n h.get?) p).2 = some o ∧ He.emptyTab o = true := fun p hp => by
    have z := (each p hp).2
    split at z
    · exact ⟨_, by assumption, z⟩
    · cases z
  refine ⟨e1, e2.1, fun p hp => (each p hp).1, fun p hp => ?_, fun p hp => ?_⟩
  · obtain ⟨o, a, b⟩ := tab p hp
    exact He.frT_none a b
  · obtain ⟨o, a, b⟩ := tab p hp
    rw [a, He.emptyTab_eq b]
def hookR (fa : List He.Fa) (fn : List He.DefD) (tf : List He.Defn) (ex : PySem.W.Frag → Bool) : PySem.W.Hook where
  α := He.AlX
  obs := fun s => obsR fa fn tf ex s.heap.objs.size s.heap.get?
  val := fun w => (He.valT fn [] w, true)
  says := fun w h => ∃ K : PySem.W.Frag, K.In h ∧ He.SaysX fa fn [] tf ex w h K
  of := fun _ _ e => ⟨_, He.frT_in, says_all e⟩
  keeps := fun _ _ _ ⟨K, i, c⟩ k => ⟨K, i.keeps k, c.t, c.more, c.hd, c.out, fun p hp => k _ _ (c.empty p hp)⟩
/-- what is seen off the tree -/
def obT (fa : List He.Fa) (fn : List He.DefD) (tf : List He.Defn) (ex : PySem.W.Frag → Bool) (s : SharedT) : He.AlX := obsR fa fn tf ex s.n (HandSHeadRun.getT s)
theorem obT_eq {fa : List He.Fa} {fn : List He.DefD} {tf : List He.Defn} {ex : PySem.W.Frag → Bool} (s : SharedT) : obT fa fn tf ex s = (hookR fa fn tf ex).obs s.abs := by
  have e : HandSHeadRun.getT s = s.abs.heap.get? := funext (HandSHeadRun.getT_eq s)
  have n : s.n = s.abs.heap.objs.size := (absHeap_size s.tree s.n s.life).symm
  unfold obT
  rw [e, n]
  rfl
/-! ### the run -/
/-- the whole run ends well -/
def TopOk (p q : Program) (loose : List Str) (Xt : Shared → Bool) {α : Type} (Yf : Shared → α) (Ya : World → α) (M : Nat) : Prop := ∀ (w : World) (os : OsState), ∃ s : Shared,
  topRun treeTable p w (boot_heap w.params).objs.size (HandSHeadRun.bootAnn w) M ⟨boot_heap w.params, #[], boot_drawn, boot_toks, os⟩ (topStub p) = some s ∧
    HandSHeadRun.looksF p (boot_heap w.params) s = true ∧ openSeen q loose (importedModules p.main.body) Xt true s = openGood q loose ∧ Yf s = Ya w
theorem TopOk.left {p q : Program} {loose : List Str} {Xt : Shared → Bool} {α : Type} {Yf : Shared → α} {Ya : World → α} {M : Nat} (t : TopOk p q loose Xt Yf Ya M)
    (e : opening p = plainProg p.main.scope.names) (f : ∀ s, fenceModules? p s = some s) : LeftO p q loose Xt Yf Ya (M + 600) true := fun w => by
  obtain ⟨⟨h, gs, d, k, os⟩, a, a'⟩ := Option.map_eq_some_iff.mp (boot_open (N := M + 600) e (Nat.ble_eq_true_of_le (Nat.le_add_left _ _)) f w)
  have a2 : h = boot_heap w.params ∧ gs = Array.mk [] ∧ d = boot_drawn ∧ k = boot_toks := by simpa using a'
  obtain ⟨rfl, rfl, rfl, rfl⟩ := a2
  obtain ⟨s, r, h1, h2, h3⟩ := t w os
  have r2 := topRun_mono 600 _ _ _ _ r
  have from_ : topFrom treeTable p w (M + 600) ⟨boot_heap w.params, Array.mk [], boot_drawn, boot_toks, os⟩ = some s := by
    unfold topFrom
    simp only [HandSHeadRun.boot_ns]
    have r3 : topRun treeTable p w (boot_heap w.params).objs.size ((boot_heap w.params).nsMap mainGlobals "__annotations__") (M + 600) ⟨boot_heap w.params, Array.mk [], boot_drawn, boot_toks, os⟩ (topStub p) = some s := r2
    have h1' : (staticsOk (importedModules p.main.body) (boot_heap w.params) s.heap && namesBound p s.heap && gensDone s && laidKept (boot_heap w.params) s.heap) = true := h1
    show (topRun treeTable p w (boot_heap w.params).objs.size ((boot_heap w.params).nsMap mainGlobals "__annotations__") (M + 600) ⟨boot_heap w.params, Array.mk [], boot_drawn, boot_toks, os⟩ (topStub p)).bind _ = some s
    rw [r3]
    show (match staticsOk (importedModules p.main.body) (boot_heap w.params) s.heap && namesBound p s.heap && gensDone s && laidKept (boot_heap w.params) s.heap with
      | true => some s
      | false => none) = some s
    rw [h1']
  unfold openEnds
  rw [a]
  show Option.map _ (topFrom treeTable p w (M + 600) _) = _
  rw [from_]
  show some (openSeen q loose (importedModules p.main.body) Xt true s, Yf s) = _
  rw [h2, h3]
theorem holds_top {r : OpenRow} {q : Program} {H : Hook} {M : Nat} {loose : List Str} {d : DefRec} {kwd : List (Str × PySem.Expr)}
    (t : TopOk r.prog q loose (fun s => xlAt q [] s && recOk r.toRowW.records s) H.obs H.val M) (e : opening r.prog = plainProg r.prog.main.scope.names) (f : ∀ s, fenceModules? r.prog s = some s)
    (hdef : defOf q r.name = some (d, kwd)) (hp : r.prog.theDef r.name = some (d.params, d.body, d.scope)) (hk : kwWritten? d.params.kwonlyargs d.params.kw_defaults = some kwd)
    (hwr : (!r.writes || r.records.isEmpty) = true) (k1 : r.wellSaid = true) (ok : (chainsOk q && opensWell r.prog && (frees r.toRowW && r.within.isEmpty)) = true) (hb : r.prog.bare) (hw : r.toRowW.promised)
    (call : WalkO q loose (XL q []) H.says r.toRowW d kwd fun f vs => PySem.call f vs) : r.Holds :=
  holds_open (XP := XL q []) (t.left e f) H.of H.keeps (fun s z => xl_of s (Bool.and_eq_true_iff.mp z).1) XL.keeps hdef hp hk (fun s z => recFacts_of (Bool.and_eq_true_iff.mp z).2) hwr k1 ok hb hw call
/-- the run's last part, by the library's twins -/
theorem last_part {p : Program} {w : World} {α : Type} {M n0 : Nat} {ann : Option Value} {s : SharedT} {t : Thread} {F : SharedT → α} {y : α} (h : (HandSHeadRun.goF (HandSHeadRun.stepQ (HandSHeadRun.denQ HandSHeadRun.tabQ) p w) n0 ann M s t).map F = some y) :
    ∃ s' : SharedT, topRun treeTable p w n0 ann M s.abs t = some s'.abs ∧ F s' = y := by
  obtain ⟨s', a, b⟩ := Option.map_eq_some_iff.mp h
  rw [← HandSHeadRun.stepQ_eq, ← HandSHeadRun.denQ_eq, ← HandSHeadRun.tabQ_eq] at a
  exact ⟨s', HandSHeadRun.goF_ok a, b⟩
end En
end
end

section
set_option maxRecDepth 100000
set_option maxHeartbeats 2000000
/-! HD: the law's call at the caller, where no display is under way. -/
namespace En
open PySem PySem.Spec PyProof.Rows L2 LamX
/-- what is tracked at first: the tables, empty; the script, if it is none of the module's own objects -/
def firstH (K : PySem.W.Frag) (cs : List (Addr × Addr)) (a : Addr) (vs : List Value) (ns : List Int) : Hp := fun b => match cs.any fun p => p.2 == b with
  | true => some (.tbl #[])
  | false => match b == a && (K.lookup a).isNone with
    | true => some (.frz { cls := .type "list", data := .seq vs.toArray } (.lst (ns.map V.int)))
    | false => none
section
variable {K : PySem.W.Frag} {cs : List (Addr × Addr)} {a : Addr} {vs : List Value} {ns : List Int}
inductive FirstAt (K : PySem.W.Frag) (cs : List (Addr × Addr)) (a : Addr) (vs : List Value) (ns : List Int) (b : Addr) : Option HO → Prop
  | tab (p : Addr × Addr) (h : p ∈ cs) (e : p.2 = b) : FirstAt K cs a vs ns b (some (.tbl #[]))
  | scr (e : b = a) (h : K.lookup a = none) : FirstAt K cs a vs ns b (some (.frz { cls := .type "list", data := .seq vs.toArray } (.lst (ns.map V.int))))
  | no (h : ∀ p ∈ cs, p.2 ≠ b) (h2 : b = a → K.lookup a ≠ none) : FirstAt K cs a vs ns b none
theorem first_at (b : Addr) : FirstAt K cs a vs ns b (firstH K cs a vs ns b) := by
  unfold firstH
  cases q : cs.any fun p => p.2 == b with
  | true =>
    obtain ⟨p, hp, e⟩ := List.any_eq_true.mp q
    exact .tab p hp (by simpa using e)
  | false =>
    cases z : b == a && (K.lookup a).isNone with
    | true =>
      rw [Bool.and_eq_true] at z
      exact .scr (by simpa using z.1) (by simpa using z.2)
    | false =>
      refine .no (fun p hp e => ?_) fun e hn => ?_
      · have := List.any_eq_false.mp q p hp
        simp [e] at this
      · simp [e, hn] at z
theorem first_tab {p : Addr × Addr} (h : p ∈ cs) : firstH K cs a vs ns p.2 = some (.tbl #[]) := by
  unfold firstH
  rw [List.any_eq_true.mpr ⟨p, h, by simp⟩]
end
theorem law_G {P : Program} {w : World} {K : PySem.W.Frag} {mg mb : Str → Option Value} {k : Nat} {fa a : Addr} {cs : List (Addr × Addr)} {fd : FuncData} {x : Str} {sp : Sp} {s1 : Shared} {vs : List Value} {ns : List Int}
    (KX : K.In s1.heap) (hns : s1.heap.Ns mainGlobals mg) (hb : s1.heap.Ns builtinsNs mb) (hbb : ∀ x : Str, x ≠ "__name__" → mb x = bootBuiltins x) (hlim : s1.heap.NoLimit) (hg : s1.gens = #[])
    (hT : ∀ p ∈ cs, s1.heap.get? p.2 = some { cls := .none, data := .fields #[] }) (nT : ∀ p ∈ cs, K.lookup p.2 = none) (C : ∀ p ∈ cs, PySem.W.CodeHd s1.heap p.1 p.2)
    (hbm : ∃ (bm : Addr) (ob : Obj), mg "__builtins__" = some (.ref bm) ∧ bm ≠ builtinsNs ∧ s1.heap.get? bm = some ob ∧ ob.cls = .type "module" ∧ ob.dict = some builtinsNs ∧ ob.data = .plain)
    (ha : s1.heap.get? a = some { cls := .type "list", data := .seq vs.toArray }) (hi : IntsAre vs ns) (hl : ns.length ≤ sizeLine) (hr : Room k callerA)
    (F : ∀ base : Heap, K.In base → base.Ns mainGlobals mg → (∀ p ∈ cs, TabB base mg p.1 p.2) → FnG P w K mg base (L2N.CX P w) k fa fd [x] sp) (hbind : ∀ (s : Shared) (u : Value), BindsTo s fd ⟨[u], []⟩ [(x, u)])
    (hsp : ∀ H : Hp, (∀ p ∈ cs, H p.2 = some (.tbl #[])) → SqL K H a (ns.map V.int) → sp [.ref a] H (fun v _ => v = .bl true) fun _ _ _ => False) :
    codeAny (model P w) callerA (.call (.ref fa) ⟨[.ref a], []⟩) (fun r s' => r = .ok (.ret (.bool true)) ∧ OldK s1.heap s'.heap ∧ s'.os = s1.os ∧ AllBare s'.gens) s1 := by
  have rv := vals_ints hi
  have tA : ∀ p ∈ cs, p.2 ≠ a := fun p hp e => by
    have z := hT p hp
    rw [e, ha] at z
    cases z
  -- an object of another kind isn't tracked
  have bare_ : ∀ {b : Addr} {o : Obj}, s1.heap.get? b = some o → (∀ us n, o.data ≠ .seq us n) → o.data ≠ .fields #[] → firstH K cs a vs ns b = none := fun {b o} e n1 n2 => by
    have f := first_at (K := K) (cs := cs) (a := a) (vs := vs) (ns := ns) b
    generalize firstH K cs a vs ns b = u at f ⊢
    cases f with
    | tab p hp e2 => rw [← e2, hT p hp] at e; cases e; exact (n2 rfl).elim
    | scr e2 _ => rw [e2, ha] at e; cases e; exact (n1 _ _ rfl).elim
    | no _ _ => rfl
  have keepN : ∀ {b : Addr} {m : Str → Option Value}, s1.heap.Ns b m → (hidT s1.heap (firstH K cs a vs ns)).Ns b m := fun {b m} ⟨o, es, ep, e, d, r⟩ =>
    ⟨o, es, ep, hidT_get e (bare_ e (fun us n z => by rw [d] at z; cases z) fun z => by rw [d] at z; cases z), d, r⟩
  have kB : K.In (hidT s1.heap (firstH K cs a vs ns)) := fun b o e => hidT_get (KX b o e) (by
    have f := first_at (K := K) (cs := cs) (a := a) (vs := vs) (ns := ns) b
    generalize firstH K cs a vs ns b = u at f ⊢
    cases f with
    | tab p hp e2 => rw [← e2, nT p hp] at e; cases e
    | scr e2 h => rw [e2, h] at e; cases e
    | no _ _ => rfl)
  have md : L2.Mod K mg (hidT s1.heap (firstH K cs a vs ns)) := ⟨kB, keepN hns, ⟨mb, keepN hb, hbb⟩, let ⟨mc, z1, z2⟩ := hlim; ⟨mc, keepN z1, z2⟩⟩
  have ok : HOk P w (firstH K cs a vs ns) s1.heap := fun b u e => by
    have f := first_at (K := K) (cs := cs) (a := a) (vs := vs) (ns := ns) b
    rw [e] at f
    cases f with
    | tab p hp e2 => rw [← e2]; exact hT p hp
    | scr e2 _ => rw [e2]; exact ⟨ha, by rw [List.length_map]; exact hl, vs, _, rv, ha⟩
  have tb : ∀ p ∈ cs, TabB (hidT s1.heap (firstH K cs a vs ns)) mg p.1 p.2 := fun p hp => by
    refine ⟨?_, ?_, fun z => ?_⟩
    · obtain ⟨o, us, file, tf, flags, tg, inF, text, tt, e1, r1, r2, r3, rest⟩ := C p hp
      refine ⟨o, us, file, tf, flags, tg, inF, text, tt, hidT_get e1 (bare_ e1 (fun us n z => by rw [r2] at z; cases z) fun z => ?_), r1, r2, r3, rest⟩
      rw [r2] at z
      cases z
      simp at r3
    · obtain ⟨bm, ob, b1, b2, b3, b4, b5, b6⟩ := hbm
      refine ⟨bm, ob, b1, b2, fun q => ?_, fun q => ?_, hidT_get b3 (bare_ b3 (fun us n z => by rw [b6] at z; cases z) fun z => by rw [b6] at z; cases z), b4, b5, b6⟩
      · obtain ⟨o, es, ep, e, d, _⟩ := hns
        rw [q, e] at b3
        cases b3
        rw [d] at b6
        cases b6
      · rw [q, hT p hp] at b3
        cases b3
        cases b6
    · obtain ⟨o, es, ep, e, d, _⟩ := hns
      rw [z, hT p hp] at e
      cases e
      cases d
  have e0 : Env0 P w K mg (hidT s1.heap (firstH K cs a vs ns)) callerA [] s1 (firstH K cs a vs ns) := ⟨rfl, md, fun b o e => of_hidT e, Nat.le_of_eq (hidT_size _ _), trivial, fun b z => (List.not_mem_nil z).elim, ok, .of_eq hg⟩
  have sq : SqL K (firstH K cs a vs ns) a (ns.map V.int) := by
    cases hk : K.lookup a with
    | some o =>
      have e := KX a o hk
      rw [ha] at e
      cases e
      exact .inr ⟨_, vs.toArray, _, hk, rfl, rfl, rfl, by rw [List.size_toArray, hi.length]; exact hl, by simpa using rv⟩
    | none =>
      have f := first_at (K := K) (cs := cs) (a := a) (vs := vs) (ns := ns) a
      generalize hu : firstH K cs a vs ns a = u at f
      cases f with
      | tab p hp e2 => exact absurd e2 (tA p hp)
      | scr _ _ => exact .inl (.inr ⟨_, hu⟩)
      | no _ h2 => exact absurd hk (h2 rfl)
  refine codeAny_mono ((F _ kB (keepN hns) tb).go (us := [.ref a]) (vs := [.ref a]) hr rfl e0 (hbind s1 (.ref a)) (.cons rfl .nil) (hsp _ (fun p hp => first_tab hp) sq)) fun r s' h => ?_
  match r with
  | .error e =>
    obtain ⟨_, _, _, _, _, _, _, _, _, _, _, _, z⟩ := h
    exact z.elim
  | .ok .next => exact h.elim
  | .ok .brk => exact h.elim
  | .ok .cont => exact h.elim
  | .ok (.ret u) =>
    obtain ⟨v, H', os, bare, un, ok', r', q⟩ := h
    obtain rfl : v = .bl true := q
    obtain rfl : u = Value.bool true := r'
    have each : ∀ b o, s1.heap.get? b = some o → s'.heap.get? b = some o ∨ ∃ p ∈ cs, p.2 = b ∧ o = { cls := .none, data := .fields #[] } ∧ ∃ more : Array Value, s'.heap.get? b = some { cls := .none, data := .fields more } := fun b o e => by
      have f := first_at (K := K) (cs := cs) (a := a) (vs := vs) (ns := ns) b
      generalize hu : firstH K cs a vs ns b = u at f
      cases f with
      | tab p hp e2 =>
        obtain ⟨more, z⟩ := un.tbls b #[] hu
        rw [← e2, hT p hp] at e
        cases e
        exact .inr ⟨p, hp, e2, rfl, _, ok' b _ z⟩
      | scr e2 _ =>
        obtain ⟨z1, _⟩ := ok b _ hu
        obtain ⟨z2, _⟩ := ok' b _ (un.frzs b _ _ hu)
        rw [e] at z1
        cases z1
        exact .inl z2
      | no _ _ => exact .inl (un.keep b o e hu (fun z => (List.not_mem_nil z).elim) (by simp))
    refine ⟨rfl, ⟨fun b o e => ?_, fun b o e => ?_⟩, os, bare⟩
    · rcases each b o e with z | ⟨p, hp, e2, e3, more, z⟩
      · exact .inl z
      · refine .inr (.inl ⟨?_, ?_⟩)
        · rw [← e2]
          exact ((C p hp).tab (hT p hp)).isCodeTable
        · rw [e3]
          exact ⟨rfl, #[], more, rfl, by rw [Array.empty_append]; exact z⟩
    · rcases each b o e with z | ⟨p, hp, e2, e3, more, z⟩
      · exact ⟨_, z⟩
      · exact ⟨_, z⟩
end En
end

section
set_option maxRecDepth 100000
set_option maxHeartbeats 2000000
/-! HE: the walk's goal of the head, from FnG. -/
namespace En
open PySem PySem.Spec PyProof.Rows L2 LamX
/-- what the law's def promises at the head's heap h -/
def LawG (l : PySem.W.OpenLaw) (w : World) (k n : Nat) (x : Str) (mg : Str → Option Value) (fa : Addr) (h : Heap) : Prop :=
  ∃ (K : PySem.W.Frag) (fd : FuncData) (cs : List (Addr × Addr)) (sp : Sp), K.In h ∧ (∀ p ∈ cs, h.get? p.2 = some { cls := .none, data := .fields #[] } ∧ K.lookup p.2 = none ∧ PySem.W.CodeHd h p.1 p.2) ∧ (∀ (s : Shared) (u : Value), BindsTo s fd ⟨[u], []⟩ [(x, u)]) ∧
    (∀ (H : Hp) (a : Addr) (ns : List Int), ns.length ≤ n → (∀ z ∈ ns, Builtin.Int.intBits z ≤ 1048576) → (∀ p ∈ cs, H p.2 = some (.tbl #[])) → SqL K H a (ns.map V.int) → sp [.ref a] H (fun v _ => v = .bl true) fun _ _ _ => False) ∧
    ∀ base : Heap, K.In base → base.Ns mainGlobals mg → (∀ p ∈ cs, TabB base mg p.1 p.2) → FnG l.prog w K mg base (L2N.CX l.prog w) k fa fd [x] sp
theorem walk_G {l : PySem.W.OpenLaw} {n k : Nat} {q : Program} {loose : List Str} {XP : (Str → Option Value) → Heap → Prop} {YP : World → Heap → Prop} {d : DefRec} {x : Str} (hn : l.most = some n) (hn2 : n ≤ sizeLine) (hdf : d.params.defaults = []) (hr : Room k callerA)
    (F : ∀ (w : World) (mg : Str → Option Value) (fa : Addr) (h : Heap), YP w h → h.Ns mainGlobals mg → mg d.name = some (.ref fa) → LawG l w k n x mg fa h) : PySem.W.WalkO q loose XP YP l.row.toRowW d [] (fun f vs => PySem.call f vs) := by
  refine Att.attach_callB hn hdf fun w s0 s1 mg mb fa o pm cd doc a vs ns G Y ho hd hcd hmg hobj hints hlen hbits hg => ?_
  obtain ⟨K, fd, cs, sp, KX, ht, hb, hsp, hF⟩ := F w mg fa _ Y G.T.g hmg
  exact law_G KX G.T.g G.T.b G.T.builtins G.T.nolimit hg (fun p hp => (ht p hp).1) (fun p hp => (ht p hp).2.1) (fun p hp => (ht p hp).2.2) G.T.bmain hobj hints (Nat.le_trans hlen hn2) hr hF hb fun H h1 h2 => hsp H a ns hlen hbits h1 h2
end En
end

section
set_option maxRecDepth 100000
set_option maxHeartbeats 4000000
/-! WJ: a row's law, from what the evaluator computes. -/
namespace En
open PySem PySem.Spec PyProof.Rows L2
theorem Rw.lawG {l : PySem.W.OpenLaw} {rw : Rw} {w : World} {K : PySem.W.Frag} {h : Heap} {mg : Str → Option Value} {fa : Addr} {n N fL : Nat} {eL : He.DefD × List Str × Bool × Tg} {x : Str} {F : Nat → List D → Hv → R D}
    (ok : rw.okB = true) (KX : K.In h) (G : h.Ns mainGlobals mg) (S : He.SaysX rw.facts (rw.fd.map (·.1)) [] rw.tf rw.exB w h K) (hmg : mg ("law" : Str) = some (.ref fa)) (hx : (("law" : Str), Sy.fn fL) ∈ rw.glb) (hL : rw.fd[fL]? = some eL) (hat : eL.1.at_ = (("law" : Str), none)) (hps : psOf eL.1.params = [x])
    (hdv : eL.1.dvs K = []) (hbd : ∀ (kV doc pm : Value) (an : Option Addr) (cdv ct : Value) (us : List Value), us.length = 1 → bindArgs (PySem.W.fnOf eL.1.name eL.1.qual eL.1.params eL.1.body eL.1.scope .none kV doc pm an cdv ct) ⟨us, []⟩ = pure ([x].zip us))
    (hs : ∀ base : Heap, K.In base → base.Ns mainGlobals mg → ∀ x w, (x, Sy.said w) ∈ rw.glb → SaidOk K mg (rw.ad K) x w)
    (hd : ∀ e ∈ rw.dfl, DflOk K (rw.tb K) e.1.1 e.1.2 e.2) (hk : ∀ e ∈ rw.kwd, KwdOk K (rw.tb K) e.1.1 e.1.2.1 e.1.2.2 e.2)
    (plain : ∀ ns : List Int, ns.length ≤ N → ∃ η, sem (rw.gst F) rw.fs n fL [.scr (ns.map .int)] [] = .ok (.bl true) η) : LawG l w (4 * n) N x mg fa h := by
  have FL := Rw.fun_ S hL
  rw [hdv] at FL
  have efa : fa = (rw.tb K).fa fL := by
    have e : mg ("law" : Str) = some (.ref (He.ga K "law")) := He.glo_ok KX G (S.t.d.facts (List.mem_append_left _ (List.mem_flatMap.mpr ⟨_, hx, List.mem_singleton.mpr rfl⟩)))
    rw [hmg] at e
    cases e
    rw [(Rw.ps_eq hL).2, hat]
    rfl
  have b := FunD.bindsA (ps := [x]) FL hbd
  refine ⟨K, (rw.tb K).fd fL, rw.tf.map (He.cT K), spF K (rw.ad K) (sem (rw.gst F) rw.fs n fL) 1, KX, fun p hp => ?_, fun s u => b s [u] rfl, fun H a ns hl hb ht hq => ?_, fun base KB NB TB => ?_⟩
  · obtain ⟨p', hp', rfl⟩ := List.mem_map.mp hp
    exact ⟨S.empty p' hp', S.out p' hp', PySem.W.codeHd_of_K KX (S.hd p' hp')⟩
  · obtain ⟨η, e⟩ := plain ns hl
    have reps : ∀ ms : List Int, Reps K [] H (ms.map .int) (ms.map V.int) := fun ms => by
      induction ms with
      | nil => exact .nil
      | cons m r ih => exact .cons (.int m) ih
    refine ⟨[], [], [.scr (ns.map .int)], rfl, ⟨rfl, List.nodup_nil, fun i o a h => by simp at h, ?_⟩, .cons ?_ .nil, ?_⟩
    · intro p hp
      obtain ⟨d, hd1, rfl⟩ := List.mem_map.mp (show p ∈ rw.tabs K from hp)
      exact ⟨#[], ht (He.cT K d.at_) (List.mem_map_of_mem (List.mem_map_of_mem hd1)), trivial, fun pos cv hc => by cases hc⟩
    · rcases hq with q | ⟨o, its, m, q1, q2, q3, q4, q5, q6⟩
      · exact .scr q (List.not_mem_nil) (reps ns)
      · exact .kscr ⟨o, its, m, q1, q2, q3, q4, q5, q6⟩ (reps ns)
    · rw [e]
      intro ρ' H' v _ _ rp
      cases rp
      rfl
  · have Wd : Wld l.prog w K mg base (rw.ad K) (rw.tb K) (rw.gst F) rw.fs := Rw.wld ok S KB NB (fun p hp => TB _ (List.mem_map_of_mem hp)) (hs base KB NB) hd hk
    have e := levels Wd n fL (Rw.mkFd rw.glb eL) (by unfold Rw.fs; rw [hL]; rfl)
    rw [(Rw.ps_eq hL).1, hps] at e
    rw [efa]
    exact e
/-- each of them -/
def DAll (K : PySem.W.Frag) (T : Tb) : List ((Nat × Nat) × List D) → Prop
  | [] => True
  | e :: r => DflOk K T e.1.1 e.1.2 e.2 ∧ DAll K T r
theorem DAll.of {K : PySem.W.Frag} {T : Tb} : ∀ {l : List ((Nat × Nat) × List D)}, DAll K T l → ∀ e ∈ l, DflOk K T e.1.1 e.1.2 e.2
  | [], _, e, h => by cases h
  | a :: r, h, e, he => (List.mem_cons.mp he).elim (fun q => q ▸ h.1) fun q => DAll.of h.2 e q
theorem Rw.dflN {rw : Rw} {w : World} {K : PySem.W.Frag} {h : Heap} (S : He.SaysX rw.facts (rw.fd.map (·.1)) [] rw.tf rw.exB w h K) {f : Nat} {ps : List Str} {e : He.DefD × List Str × Bool × Tg} (he : rw.fd[f]? = some e) (hp : psOf e.1.params = ps) (hd : e.1.dvs K = [])
    (hb : ∀ (kV doc pm : Value) (an : Option Addr) (cdv ct : Value) (us : List Value), us.length = ps.length → bindArgs (PySem.W.fnOf e.1.name e.1.qual e.1.params e.1.body e.1.scope .none kV doc pm an cdv ct) ⟨us, []⟩ = pure (ps.zip us)) : DflOk K (rw.tb K) f ps.length [] := by
  have FL := Rw.fun_ S he
  rw [hd] at FL
  have e2 : (rw.tb K).ps f = ps := (Rw.ps_eq he).1.trans hp
  refine ⟨[], [], .nil, ?_, fun _ _ => .nil, by rw [e2]; rfl⟩
  rw [e2]
  exact FL.bindsN hb
def saidsOf : List (Str × Sy) → List (Str × (Nat → Option Str))
  | [] => []
  | (x, .said w) :: r => (x, w) :: saidsOf r
  | _ :: r => saidsOf r
theorem mem_saids {x : Str} {w : Nat → Option Str} : ∀ {l : List (Str × Sy)}, (x, Sy.said w) ∈ l → (x, w) ∈ saidsOf l
  | [], h => by cases h
  | (y, s) :: r, h => by
    rcases List.mem_cons.mp h with e | e
    · cases e
      exact List.mem_cons_self
    · have ih := mem_saids e
      cases s <;> first | exact ih | exact List.mem_cons_of_mem _ ih
theorem saids_one {l : List (Str × Sy)} {x y : Str} {w v : Nat → Option Str} (e : saidsOf l = [(y, v)]) (h : (x, Sy.said w) ∈ l) : x = y ∧ w = v := by
  have z := mem_saids h
  rw [e] at z
  cases List.mem_singleton.mp z
  exact ⟨rfl, rfl⟩
theorem saids_none {l : List (Str × Sy)} {x : Str} {w : Nat → Option Str} (e : saidsOf l = []) (h : (x, Sy.said w) ∈ l) : False := by
  have z := mem_saids h
  rw [e] at z
  cases z
end En
end

section
set_option maxRecDepth 100000
set_option maxHeartbeats 0
noncomputable section
namespace Hd
open PySem PySem.Spec PyProof.Rows L2 En
def top (i : Nat) : Stmt := PySem.Challenge.pw_flashkeep_k64_whole_texts.main.body.getD i (.Pass ⟨0, 0, 0, 0⟩)

def d_is_whole : He.DefD := ⟨("is_whole", none), "is_whole", "is_whole", defArgs (top 25), defBody (top 25), defScope (top 25), [], []⟩
def d_is_within : He.DefD := ⟨("is_within", none), "is_within", "is_within", defArgs (top 26), defBody (top 26), defScope (top 26), [], []⟩
def d_rises : He.DefD := ⟨("rises", none), "rises", "rises", defArgs (top 27), defBody (top 27), defScope (top 27), [], []⟩
def d_is_fault : He.DefD := ⟨("is_fault", none), "is_fault", "is_fault", defArgs (top 36), defBody (top 36), defScope (top 36), [], []⟩
def d_is_weather : He.DefD := ⟨("is_weather", none), "is_weather", "is_weather", defArgs (top 37), defBody (top 37), defScope (top 37), [], []⟩
def d_need_weather : He.DefD := ⟨("need_weather", none), "need_weather", "need_weather", defArgs (top 38), defBody (top 38), defScope (top 38), [], []⟩
def d_is_place : He.DefD := ⟨("is_place", none), "is_place", "is_place", defArgs (top 46), defBody (top 46), defScope (top 46), [], []⟩
def d_is_row : He.DefD := ⟨("is_row", none), "is_row", "is_row", defArgs (top 47), defBody (top 47), defScope (top 47), [], []⟩
def d_are_rows : He.DefD := ⟨("are_rows", none), "are_rows", "are_rows", defArgs (top 48), defBody (top 48), defScope (top 48), [], []⟩
def d_has_shape : He.DefD := ⟨("has_shape", none), "has_shape", "has_shape", defArgs (top 49), defBody (top 49), defScope (top 49), [], []⟩
def d_written : He.DefD := ⟨("written", none), "written", "written", defArgs (top 50), defBody (top 50), defScope (top 50), [], []⟩
def d_order_text : He.DefD := ⟨("order_text", none), "order_text", "order_text", defArgs (top 51), defBody (top 51), defScope (top 51), [], []⟩
def d_weather_text : He.DefD := ⟨("weather_text", none), "weather_text", "weather_text", defArgs (top 52), defBody (top 52), defScope (top 52), [], []⟩
def d_number_in : He.DefD := ⟨("number_in", none), "number_in", "number_in", defArgs (top 53), defBody (top 53), defScope (top 53), [], []⟩
def d_numbers_in : He.DefD := ⟨("numbers_in", none), "numbers_in", "numbers_in", defArgs (top 54), defBody (top 54), defScope (top 54), [], []⟩
def d_order_in : He.DefD := ⟨("order_in", none), "order_in", "order_in", defArgs (top 55), defBody (top 55), defScope (top 55), [], []⟩
def d_fault_in : He.DefD := ⟨("fault_in", none), "fault_in", "fault_in", defArgs (top 56), defBody (top 56), defScope (top 56), [], []⟩
def d_read_order : He.DefD := ⟨("read_order", none), "read_order", "read_order", defArgs (top 57), defBody (top 57), defScope (top 57), [], []⟩
def d_read_weather : He.DefD := ⟨("read_weather", none), "read_weather", "read_weather", defArgs (top 58), defBody (top 58), defScope (top 58), [], []⟩
def d__law_cell_at : He.DefD := ⟨("_law_cell_at", none), "_law_cell_at", "_law_cell_at", defArgs (top 60), defBody (top 60), defScope (top 60), [], []⟩
def d__law_state : He.DefD := ⟨("_law_state", none), "_law_state", "_law_state", defArgs (top 61), defBody (top 61), defScope (top 61), [], []⟩
def d__law_choice : He.DefD := ⟨("_law_choice", none), "_law_choice", "_law_choice", defArgs (top 62), defBody (top 62), defScope (top 62), [], []⟩
def d__law_order : He.DefD := ⟨("_law_order", none), "_law_order", "_law_order", defArgs (top 63), defBody (top 63), defScope (top 63), [], []⟩
def d__law_marks : He.DefD := ⟨("_law_marks", none), "_law_marks", "_law_marks", defArgs (top 64), defBody (top 64), defScope (top 64), [], []⟩
def d__law_said : He.DefD := ⟨("_law_said", none), "_law_said", "_law_said", defArgs (top 65), defBody (top 65), defScope (top 65), [], []⟩
def d__law_any_weather : He.DefD := ⟨("_law_any_weather", none), "_law_any_weather", "_law_any_weather", defArgs (top 66), defBody (top 66), defScope (top 66), [], []⟩
def d__law_any_order : He.DefD := ⟨("_law_any_order", none), "_law_any_order", "_law_any_order", defArgs (top 67), defBody (top 67), defScope (top 67), [], []⟩
def d__law_again : He.DefD := ⟨("_law_again", none), "_law_again", "_law_again", defArgs (top 68), defBody (top 68), defScope (top 68), [], []⟩
def d__law_right : He.DefD := ⟨("_law_right", none), "_law_right", "_law_right", defArgs (top 69), defBody (top 69), defScope (top 69), [], []⟩
def d_law : He.DefD := ⟨("law", none), "law", "law", defArgs (top 70), defBody (top 70), defScope (top 70), [], []⟩
def fds0 : List (He.DefD × List PySem.Str × Bool × Tg) := [
  (d_is_whole, ["thing"], false, ⟨true, true, []⟩),
  (d_is_within, ["thing", "least", "most"], false, ⟨true, true, []⟩),
  (d_rises, ["row", "one", "later"], false, ⟨true, true, []⟩),
  (d_is_fault, ["thing"], false, ⟨true, true, []⟩),
  (d_is_weather, ["thing", "row", "step", "fault"], false, ⟨true, true, []⟩),
  (d_need_weather, ["thing"], false, ⟨true, true, []⟩),
  (d_is_place, ["thing"], false, ⟨true, true, []⟩),
  (d_is_row, ["thing"], false, ⟨true, true, []⟩),
  (d_are_rows, ["thing", "one", "place", "data"], false, ⟨true, true, []⟩),
  (d_has_shape, ["thing", "word", "things"], false, ⟨true, true, []⟩),
  (d_written, ["order", "word", "things", "row", "number"], false, ⟨true, true, []⟩),
  (d_order_text, ["order"], false, ⟨true, true, []⟩),
  (d_weather_text, ["weather", "found", "step", "word", "numbers", "number"], false, ⟨true, true, [1]⟩),
  (d_number_in, ["word", "sign"], false, ⟨true, true, []⟩),
  (d_numbers_in, ["words", "found", "word"], false, ⟨true, true, []⟩),
  (d_order_in, ["text", "numbers", "found", "word", "words"], false, ⟨true, true, []⟩),
  (d_fault_in, ["word", "number", "bit", "step", "sign", "fault"], false, ⟨true, true, []⟩),
  (d_read_order, ["text", "found"], false, ⟨true, true, []⟩),
  (d_read_weather, ["text", "found", "word"], false, ⟨true, true, []⟩),
  (d__law_cell_at, ["_law_script", "_law_k"], false, ⟨true, true, []⟩)]
def fds1 : List (He.DefD × List PySem.Str × Bool × Tg) := [
  (d__law_state, ["_law_script", "_law_k", "_law_cell"], false, ⟨false, false, []⟩),
  (d__law_choice, ["_law_state_here", "_law_many", "_law_mixed", "_law_found"], false, ⟨true, true, [0]⟩),
  (d__law_order, ["_law_state_here", "_law_plan", "_law_way", "_law_place", "_law_lap", "_law_places", "_law_rows"], false, ⟨true, true, [5, 6]⟩),
  (d__law_marks, ["_law_e", "_law_marks_here"], false, ⟨true, true, []⟩),
  (d__law_said, ["_law_call", "_law_e", "_law_found", "_law_words", "_law_marks_here"], false, ⟨true, true, []⟩),
  (d__law_any_weather, ["_law_state_here", "_law_far_step", "_law_rows", "_law_lap", "_law_fault", "_law_step"], false, ⟨true, true, [2]⟩),
  (d__law_any_order, ["_law_state_here", "_law_wide"], false, ⟨true, true, []⟩),
  (d__law_again, ["_law_text", "_law_words", "_law_word"], true, ⟨true, true, [1]⟩),
  (d__law_right, ["_law_state_here", "_law_one", "_law_text", "_law_orders", "_law_storms", "_law_words", "_law_at", "_law_row", "_law_lap", "_law_other"], false, ⟨true, true, []⟩),
  (d_law, ["_law_script", "_law_k", "_law_state_here", "_law_nth"], false, ⟨true, true, []⟩)]
def fds : List (He.DefD × List PySem.Str × Bool × Tg) := fds0 ++ fds1
def anc : List (List Nat) := [[0], [1, 0], [2, 0], [3, 0], [4, 0], [5, 0], [6, 0], [7, 0], [8, 0], [9, 0], [10, 0], [11, 0], [12, 0], [13, 0], [14, 0], [15, 0], [16, 0], [17, 0], [18, 0], [19, 0], [20, 0], [21, 0], [22, 0]]
def subT (c d : Nat) : Bool := (anc.getD c []).contains d
def saidL : List PySem.Str := ["! width", "! number", "! word", "! fields", "! weather", "! block", "! page", "! plan", "! chip", "! order", "! orders", "! place", "! paper", "! text", "! line", "! off", "! written", "! bad", "! spoilt", "! room", "! worn", "! over"]
def saidW (c : Nat) : Option PySem.Str := match c with
  | 1 => some "! width"
  | 2 => some "! number"
  | 3 => some "! word"
  | 4 => some "! fields"
  | 5 => some "! weather"
  | 6 => some "! block"
  | 7 => some "! page"
  | 8 => some "! plan"
  | 9 => some "! chip"
  | 10 => some "! order"
  | 11 => some "! orders"
  | 12 => some "! place"
  | 13 => some "! paper"
  | 14 => some "! text"
  | 15 => some "! line"
  | 16 => some "! off"
  | 17 => some "! written"
  | 18 => some "! bad"
  | 19 => some "! spoilt"
  | 20 => some "! room"
  | 21 => some "! worn"
  | 22 => some "! over"
  | _ => none
def glb0 : List (PySem.Str × Sy) := [
  ("MOST_PLACE", .cst (.int 15)),
  ("MOST_DATA", .cst (.int 63)),
  ("WORD_BITS", .cst (.int 47)),
  ("MOST_FAULTS", .cst (.int 40)),
  ("MOST_STEP", .cst (.int 9999)),
  ("CUT", .cst (.tup [(.str "cut")])),
  ("BAD", .cst (.tup [(.str "bad")])),
  ("FIGURES", .cst (.str "0123456789")),
  ("MOST_FIGURES", .cst (.int 9)),
  ("MOST_ROWS", .cst (.int 4)),
  ("NONE", .cst (.str "-")),
  ("BETWEEN", .cst (.str ":")),
  ("BIT", .cst (.str "bit")),
  ("FlashError", .exc 0),
  ("NoWidth", .exc 1),
  ("NoNumber", .exc 2),
  ("NoWord", .exc 3),
  ("NoFields", .exc 4),
  ("NoWeather", .exc 5),
  ("NoBlock", .exc 6)]
def glb1 : List (PySem.Str × Sy) := [
  ("NoPage", .exc 7),
  ("NoPlan", .exc 8),
  ("NoFlash", .exc 9),
  ("NoOrder", .exc 10),
  ("NoOrders", .exc 11),
  ("NoPlace", .exc 12),
  ("NoPaper", .exc 13),
  ("NoText", .exc 14),
  ("NoLine", .exc 15),
  ("Off", .exc 16),
  ("Written", .exc 17),
  ("Bad", .exc 18),
  ("Spoilt", .exc 19),
  ("NoRoom", .exc 20),
  ("Worn", .exc 21),
  ("Over", .exc 22),
  ("is_whole", .fn 0),
  ("is_within", .fn 1),
  ("rises", .fn 2),
  ("is_fault", .fn 3)]
def glb2 : List (PySem.Str × Sy) := [
  ("is_weather", .fn 4),
  ("need_weather", .fn 5),
  ("is_place", .fn 6),
  ("is_row", .fn 7),
  ("are_rows", .fn 8),
  ("has_shape", .fn 9),
  ("written", .fn 10),
  ("order_text", .fn 11),
  ("weather_text", .fn 12),
  ("number_in", .fn 13),
  ("numbers_in", .fn 14),
  ("order_in", .fn 15),
  ("fault_in", .fn 16),
  ("read_order", .fn 17),
  ("read_weather", .fn 18),
  ("_law_cell_at", .fn 19),
  ("_law_state", .fn 20),
  ("_law_choice", .fn 21),
  ("_law_order", .fn 22),
  ("_law_marks", .fn 23)]
def glb3 : List (PySem.Str × Sy) := [
  ("_law_said", .said saidW),
  ("_law_any_weather", .fn 25),
  ("_law_any_order", .fn 26),
  ("_law_again", .fn 27),
  ("_law_right", .fn 28),
  ("law", .fn 29),
  ("len", .bi .len),
  ("range", .bi .range),
  ("isinstance", .bi .isinstance),
  ("tuple", .bi .tuple),
  ("list", .bi .list),
  ("int", .bi .int),
  ("str", .bi .str),
  ("bool", .bi .bool),
  ("max", .bi .max),
  ("min", .bi .min),
  ("sorted", .bi .sorted),
  ("all", .bi .all),
  ("zip", .bi .zip),
  ("repr", .bi .repr)]
def glb : List (PySem.Str × Sy) := glb0 ++ glb1 ++ glb2 ++ glb3
def dfl0 : List ((Nat × Nat) × List D) := [((0, 1), []), ((1, 3), []), ((2, 1), []), ((3, 1), []), ((4, 1), []), ((5, 1), []), ((6, 1), []), ((7, 1), []), ((8, 1), []), ((9, 1), []), ((10, 1), []), ((11, 1), []), ((12, 1), []), ((13, 1), []), ((14, 1), []), ((15, 1), []), ((16, 1), []), ((17, 1), []), ((18, 1), []), ((19, 2), [])]
def dfl1 : List ((Nat × Nat) × List D) := [((20, 2), []), ((21, 2), []), ((22, 2), []), ((23, 1), []), ((25, 2), []), ((26, 1), []), ((27, 1), []), ((28, 1), []), ((29, 1), [])]
def dfl : List ((Nat × Nat) × List D) := dfl0 ++ dfl1
def row : Rw where
  fd := fds
  cls := []
  exn := ["FlashError", "NoWidth", "NoNumber", "NoWord", "NoFields", "NoWeather", "NoBlock", "NoPage", "NoPlan", "NoFlash", "NoOrder", "NoOrders", "NoPlace", "NoPaper", "NoText", "NoLine", "Off", "Written", "Bad", "Spoilt", "NoRoom", "Worn", "Over"]
  glb := glb
  dfl := dfl
  sub := subT
  W := 100000
  mks := true
theorem row_ok : row.okB = true := by decide +kernel

def nm0 : List PySem.Str := ["is_whole", "is_within", "rises", "is_fault", "is_weather", "need_weather", "is_place", "is_row", "are_rows", "has_shape", "written", "order_text", "weather_text", "number_in", "numbers_in", "order_in", "fault_in", "read_order", "read_weather", "_law_cell_at", "_law_state", "_law_choice", "_law_order", "_law_marks", "_law_said", "_law_any_weather", "_law_any_order", "_law_again", "_law_right", "FlashError"]
def nm1 : List PySem.Str := ["NoWidth", "NoNumber", "NoWord", "NoFields", "NoWeather", "NoBlock", "NoPage", "NoPlan", "NoFlash", "NoOrder", "NoOrders", "NoPlace", "NoPaper", "NoText", "NoLine", "Off", "Written", "Bad", "Spoilt", "NoRoom", "Worn", "Over", "MOST_PLACE", "MOST_DATA", "WORD_BITS", "MOST_FAULTS", "MOST_STEP", "CUT", "BAD", "FIGURES"]
def nm2 : List PySem.Str := ["MOST_FIGURES", "MOST_ROWS", "NONE", "BETWEEN", "BIT"]
def names : List PySem.Str := nm0 ++ nm1 ++ nm2
abbrev R : PySem.W.OpenRow := PySem.W.OpenLaw.row PySem.Challenge.rw_flashkeep_k64_whole_texts
abbrev hk : PySem.W.Hook := hookR row.facts (row.fd.map (·.1)) row.tf row.exB
def ob (s : PySem.W.SharedT) : He.AlX := obT row.facts (row.fd.map (·.1)) row.tf row.exB s
theorem ob_eq (s : PySem.W.SharedT) : ob s = hk.obs s.abs := obT_eq s
theorem run (w : World) : HandSHeadRun.RunEq R (PySem.W.view R.prog [70]) hk ob 30000 names w := by
  intro os
  kernel_rfl
section
variable {P : Program} {wd : World} {K : PySem.W.Frag} {h : Heap} {mg : Str → Option Value}
theorem dfl_ok (S : He.SaysX row.facts (row.fd.map (·.1)) [] row.tf row.exB wd h K) : ∀ e ∈ row.dfl, DflOk K (row.tb K) e.1.1 e.1.2 e.2 := by
  intro e he
  have all : DAll K (row.tb K) row.dfl := by
    refine ⟨Rw.dflN S (f := 0) (ps := ["thing"]) rfl rfl rfl fun _ _ _ _ _ _ us hl => match us, hl with | [_], _ => rfl, ?_⟩
    refine ⟨Rw.dflN S (f := 1) (ps := ["thing", "least", "most"]) rfl rfl rfl fun _ _ _ _ _ _ us hl => match us, hl with | [_, _, _], _ => rfl, ?_⟩
    refine ⟨Rw.dflN S (f := 2) (ps := ["row"]) rfl rfl rfl fun _ _ _ _ _ _ us hl => match us, hl with | [_], _ => rfl, ?_⟩
    refine ⟨Rw.dflN S (f := 3) (ps := ["thing"]) rfl rfl rfl fun _ _ _ _ _ _ us hl => match us, hl with | [_], _ => rfl, ?_⟩
    refine ⟨Rw.dflN S (f := 4) (ps := ["thing"]) rfl rfl rfl fun _ _ _ _ _ _ us hl => match us, hl with | [_], _ => rfl, ?_⟩
    refine ⟨Rw.dflN S (f := 5) (ps := ["thing"]) rfl rfl rfl fun _ _ _ _ _ _ us hl => match us, hl with | [_], _ => rfl, ?_⟩
    refine ⟨Rw.dflN S (f := 6) (ps := ["thing"]) rfl rfl rfl fun _ _ _ _ _ _ us hl => match us, hl with | [_], _ => rfl, ?_⟩
    refine ⟨Rw.dflN S (f := 7) (ps := ["thing"]) rfl rfl rfl fun _ _ _ _ _ _ us hl => match us, hl with | [_], _ => rfl, ?_⟩
    refine ⟨Rw.dflN S (f := 8) (ps := ["thing"]) rfl rfl rfl fun _ _ _ _ _ _ us hl => match us, hl with | [_], _ => rfl, ?_⟩
    refine ⟨Rw.dflN S (f := 9) (ps := ["thing"]) rfl rfl rfl fun _ _ _ _ _ _ us hl => match us, hl with | [_], _ => rfl, ?_⟩
    refine ⟨Rw.dflN S (f := 10) (ps := ["order"]) rfl rfl rfl fun _ _ _ _ _ _ us hl => match us, hl with | [_], _ => rfl, ?_⟩
    refine ⟨Rw.dflN S (f := 11) (ps := ["order"]) rfl rfl rfl fun _ _ _ _ _ _ us hl => match us, hl with | [_], _ => rfl, ?_⟩
    refine ⟨Rw.dflN S (f := 12) (ps := ["weather"]) rfl rfl rfl fun _ _ _ _ _ _ us hl => match us, hl with | [_], _ => rfl, ?_⟩
    refine ⟨Rw.dflN S (f := 13) (ps := ["word"]) rfl rfl rfl fun _ _ _ _ _ _ us hl => match us, hl with | [_], _ => rfl, ?_⟩
    refine ⟨Rw.dflN S (f := 14) (ps := ["words"]) rfl rfl rfl fun _ _ _ _ _ _ us hl => match us, hl with | [_], _ => rfl, ?_⟩
    refine ⟨Rw.dflN S (f := 15) (ps := ["text"]) rfl rfl rfl fun _ _ _ _ _ _ us hl => match us, hl with | [_], _ => rfl, ?_⟩
    refine ⟨Rw.dflN S (f := 16) (ps := ["word"]) rfl rfl rfl fun _ _ _ _ _ _ us hl => match us, hl with | [_], _ => rfl, ?_⟩
    refine ⟨Rw.dflN S (f := 17) (ps := ["text"]) rfl rfl rfl fun _ _ _ _ _ _ us hl => match us, hl with | [_], _ => rfl, ?_⟩
    refine ⟨Rw.dflN S (f := 18) (ps := ["text"]) rfl rfl rfl fun _ _ _ _ _ _ us hl => match us, hl with | [_], _ => rfl, ?_⟩
    refine ⟨Rw.dflN S (f := 19) (ps := ["_law_script", "_law_k"]) rfl rfl rfl fun _ _ _ _ _ _ us hl => match us, hl with | [_, _], _ => rfl, ?_⟩
    refine ⟨Rw.dflN S (f := 20) (ps := ["_law_script", "_law_k"]) rfl rfl rfl fun _ _ _ _ _ _ us hl => match us, hl with | [_, _], _ => rfl, ?_⟩
    refine ⟨Rw.dflN S (f := 21) (ps := ["_law_state_here", "_law_many"]) rfl rfl rfl fun _ _ _ _ _ _ us hl => match us, hl with | [_, _], _ => rfl, ?_⟩
    refine ⟨Rw.dflN S (f := 22) (ps := ["_law_state_here", "_law_plan"]) rfl rfl rfl fun _ _ _ _ _ _ us hl => match us, hl with | [_, _], _ => rfl, ?_⟩
    refine ⟨Rw.dflN S (f := 23) (ps := ["_law_e"]) rfl rfl rfl fun _ _ _ _ _ _ us hl => match us, hl with | [_], _ => rfl, ?_⟩
    refine ⟨Rw.dflN S (f := 25) (ps := ["_law_state_here", "_law_far_step"]) rfl rfl rfl fun _ _ _ _ _ _ us hl => match us, hl with | [_, _], _ => rfl, ?_⟩
    refine ⟨Rw.dflN S (f := 26) (ps := ["_law_state_here"]) rfl rfl rfl fun _ _ _ _ _ _ us hl => match us, hl with | [_], _ => rfl, ?_⟩
    refine ⟨Rw.dflN S (f := 27) (ps := ["_law_text"]) rfl rfl rfl fun _ _ _ _ _ _ us hl => match us, hl with | [_], _ => rfl, ?_⟩
    refine ⟨Rw.dflN S (f := 28) (ps := ["_law_state_here"]) rfl rfl rfl fun _ _ _ _ _ _ us hl => match us, hl with | [_], _ => rfl, ?_⟩
    refine ⟨Rw.dflN S (f := 29) (ps := ["_law_script"]) rfl rfl rfl fun _ _ _ _ _ _ us hl => match us, hl with | [_], _ => rfl, ?_⟩
    trivial
  exact all.of e he
def sn : SaidN := ⟨"_law_call", "_law_e", "_law_found", "_law_words", "_law_marks_here", "_law_marks", "_law_e"⟩
theorem said_chk : row.saidB sn "_law_said" 24 23 saidW = true := by decide +kernel
theorem said_lt : ∀ c z, saidW c = some z → c < row.exn.length := by
  intro c z h
  unfold saidW at h
  split at h <;> first | decide | cases h
theorem said_ok {base : Heap} (S : He.SaysX row.facts (row.fd.map (·.1)) [] row.tf row.exB wd h K) (KB : K.In base) (hns : base.Ns mainGlobals mg) : ∀ x w, (x, Sy.said w) ∈ row.glb → SaidOk K mg (row.ad K) x w := by
  intro x w hx
  have e : x = "_law_said" ∧ w = saidW := saids_one (l := row.glb) rfl hx
  obtain ⟨rfl, rfl⟩ := e
  refine Rw.saidOk row_ok S KB hns hx said_chk said_lt (fun e he => ?_) (fun e he => ?_)
  · cases he
    exact ⟨rfl, fun _ _ _ _ _ _ us hl => match us, hl with | [_], _ => rfl⟩
  · cases he
    exact ⟨rfl, fun _ _ _ _ _ _ us hl => match us, hl with | [_], _ => rfl⟩
end
end Hd
open PySem PySem.W PySem.Calls PyProof.Rows
theorem holds_of (F : Nat → List En.D → En.Hv → En.R En.D) (NL : Nat) (hr : L2.Room (4 * NL) callerA) (plain : ∀ ns : List Int, ns.length ≤ 63 → ∃ η, En.sem (Hd.row.gst F) Hd.row.fs NL 29 [.scr (ns.map .int)] [] = .ok (.bl true) η) : PySem.Challenge.rw_flashkeep_k64_whole_texts.Holds := by
  w_on; o_law
  refine HandSHeadRun.head_any (r := OpenLaw.row PySem.Challenge.rw_flashkeep_k64_whole_texts) (q := view (OpenLaw.row PySem.Challenge.rw_flashkeep_k64_whole_texts).prog [70]) (H := Hd.hk) (ob := Hd.ob) (M := 30000) (loose := Hd.names) (d := HandSHeadRun.topDef (OpenLaw.row PySem.Challenge.rw_flashkeep_k64_whole_texts).prog 70) (kwd := []) Hd.ob_eq
    (by kernel_rfl) (fun s => by kernel_rfl) Hd.run (by kernel_rfl) (by kernel_rfl) (by kernel_rfl) (by rfl) (by first | assumption | decide +kernel) (by decide +kernel) ⟨rfl, rfl, rfl, rfl, rfl, by decide +kernel⟩ ?hw ?hc
  case hw => w_witness2
  case hc =>
    refine En.walk_G (l := PySem.Challenge.rw_flashkeep_k64_whole_texts) (n := 63) (k := 4 * NL) (x := "_law_script") rfl (by decide) (by kernel_rfl) hr ?F
    intro w mg fa h Y G hmg0
    obtain ⟨K, KX, S⟩ := Y
    have hmg : mg ("law" : PySem.Str) = some (.ref fa) := by
      have e : (HandSHeadRun.topDef (OpenLaw.row PySem.Challenge.rw_flashkeep_k64_whole_texts).prog 70).name = ("law" : PySem.Str) := by kernel_rfl
      rw [← e]
      exact hmg0
    exact En.Rw.lawG (fL := 29) (F := F) Hd.row_ok KX G S hmg (En.lookup_in (k := ("law" : PySem.Str)) (l := Hd.row.glb) (by kernel_rfl)) rfl rfl rfl rfl (fun _ _ _ _ _ _ us hl => match us, hl with | [_], _ => rfl) (fun base KB NB => Hd.said_ok S KB NB) (Hd.dfl_ok S) (fun e he => by cases he) plain
end
end

section
set_option maxRecDepth 100000
set_option maxHeartbeats 4000000
noncomputable section
namespace Mi
open PySem PySem.Spec PyProof.Rows L2 En
open Hd (row saidW)
abbrev gst (F : Nat → List D → Hv → R D) : Gst := row.gst F
/-- a def of the row at the level n -/
def Q (n f : Nat) (ds : List D) (η : Hv) : R D := sem (row.gst fun _ _ _ => .bad) row.fs n f ds η
abbrev f_is_whole : Nat := 0
abbrev f_is_within : Nat := 1
abbrev f_rises : Nat := 2
abbrev f_is_fault : Nat := 3
abbrev f_is_weather : Nat := 4
abbrev f_need_weather : Nat := 5
abbrev f_is_place : Nat := 6
abbrev f_is_row : Nat := 7
abbrev f_are_rows : Nat := 8
abbrev f_has_shape : Nat := 9
abbrev f_written : Nat := 10
abbrev f_order_text : Nat := 11
abbrev f_weather_text : Nat := 12
abbrev f_number_in : Nat := 13
abbrev f_numbers_in : Nat := 14
abbrev f_order_in : Nat := 15
abbrev f_fault_in : Nat := 16
abbrev f_read_order : Nat := 17
abbrev f_read_weather : Nat := 18
abbrev f__law_cell_at : Nat := 19
abbrev f__law_state : Nat := 20
abbrev f__law_choice : Nat := 21
abbrev f__law_order : Nat := 22
abbrev f__law_marks : Nat := 23
abbrev f__law_said : Nat := 24
abbrev f__law_any_weather : Nat := 25
abbrev f__law_any_order : Nat := 26
abbrev f__law_again : Nat := 27
abbrev f__law_right : Nat := 28
abbrev f_law : Nat := 29
def m_is_whole (F : Nat → List D → Hv → R D) : Stm := sSeq (sRet (xAnd (xIsT "int" (xVar 0)) (xNot (xIsT "bool" (xVar 0))))) (sPass)
def n_is_whole : List PySem.Str := ["thing"]
theorem q_is_whole (n : Nat) (ds : List D) (η : Hv) : Q (n + 1) f_is_whole ds η = frz η (finF (m_is_whole (Q n) (startE n_is_whole ds) η)) := by kernel_rfl
theorem u_is_whole (n : Nat) (a0 : D) (η : Hv) : Q (n + 1) f_is_whole [a0] η = frz η (finF (m_is_whole (Q n) [some a0] η)) := q_is_whole n _ η
def m_is_within (F : Nat → List D → Hv → R D) : Stm := sSeq (sRet (xAnd (xCall (gst F) f_is_whole [] (xCons (xVar 0) (xNil))) (xChain (cmpF .LtE) (cmpF .LtE) (xVar 1) (xVar 0) (xVar 2)))) (sPass)
def n_is_within : List PySem.Str := ["thing", "least", "most"]
theorem q_is_within (n : Nat) (ds : List D) (η : Hv) : Q (n + 1) f_is_within ds η = frz η (finF (m_is_within (Q n) (startE n_is_within ds) η)) := by kernel_rfl
theorem u_is_within (n : Nat) (a0 a1 a2 : D) (η : Hv) : Q (n + 1) f_is_within [a0, a1, a2] η = frz η (finF (m_is_within (Q n) [some a0, some a1, some a2] η)) := q_is_within n _ η
def m_rises (F : Nat → List D → Hv → R D) : Stm := sSeq (sRet (xFn (biH .all) (xCons (xFrz (xComp [1, 2] (iZip (xVar 0) (xFrz (xSlc (xVar 0) (xPart (xC (.int 1))) xNoPart))) (gTupl 2 (gsCons (gSlot 1) (gsCons (gSlot 2) (gsNil)))) tYesB (x2 (cmpF .Lt) (xVar 1) (xVar 2)))) (xNil)))) (sPass)
def n_rises : List PySem.Str := ["row", "one", "later"]
theorem q_rises (n : Nat) (ds : List D) (η : Hv) : Q (n + 1) f_rises ds η = frz η (finF (m_rises (Q n) (startE n_rises ds) η)) := by kernel_rfl
theorem u_rises (n : Nat) (a0 : D) (η : Hv) : Q (n + 1) f_rises [a0] η = frz η (finF (m_rises (Q n) [some a0, none, none] η)) := q_rises n _ η
def m_is_fault (F : Nat → List D → Hv → R D) : Stm := sSeq (sIf (xOrT (xBool (x2 (cmpF .Eq) (xVar 0) (xC (.tup [(.str "cut")])))) (xBool (x2 (cmpF .Eq) (xVar 0) (xC (.tup [(.str "bad")]))))) (sSeq (sRet (xC (.bl true))) (sPass)) (sPass)) (sSeq (sIf (xOrT (xNotT (xTru (xIsT "tuple" (xVar 0)))) (xOrT (xBool (x2 (cmpF .NotEq) (xFn (biH .len) (xCons (xVar 0) (xNil))) (xC (.int 2)))) (xOrT (xNotT (xTru (xIsT "str" (xIx (xVar 0) (xC (.int 0)))))) (xBool (x2 (cmpF .NotEq) (xIx (xVar 0) (xC (.int 0))) (xC (.str "bit"))))))) (sSeq (sRet (xC (.bl false))) (sPass)) (sPass)) (sSeq (sRet (xCall (gst F) f_is_within [] (xCons (xIx (xVar 0) (xC (.int 1))) (xCons (xC (.int 0)) (xCons (x2 (binF .Sub) (xC (.int 47)) (xC (.int 1))) (xNil)))))) (sPass)))
def n_is_fault : List PySem.Str := ["thing"]
theorem q_is_fault (n : Nat) (ds : List D) (η : Hv) : Q (n + 1) f_is_fault ds η = frz η (finF (m_is_fault (Q n) (startE n_is_fault ds) η)) := by kernel_rfl
theorem u_is_fault (n : Nat) (a0 : D) (η : Hv) : Q (n + 1) f_is_fault [a0] η = frz η (finF (m_is_fault (Q n) [some a0] η)) := q_is_fault n _ η
def m_is_weather (F : Nat → List D → Hv → R D) : Stm := sSeq (sIf (xOrT (xNotT (xTru (xIsT "tuple" (xVar 0)))) (xBool (x2 (cmpF .Gt) (xFn (biH .len) (xCons (xVar 0) (xNil))) (xC (.int 40))))) (sSeq (sRet (xC (.bl false))) (sPass)) (sPass)) (sSeq (sIf (xNotT (xTru (xFn (biH .all) (xCons (xFrz (xComp [1] (iVal (xVar 0)) (gSlot 1) tYesB (xAnd (xIsT "tuple" (xVar 1)) (x2 (cmpF .Eq) (xFn (biH .len) (xCons (xVar 1) (xNil))) (xC (.int 2)))))) (xNil))))) (sSeq (sRet (xC (.bl false))) (sPass)) (sPass)) (sSeq (sIf (xNotT (xTru (xFn (biH .all) (xCons (xFrz (xComp [2, 3] (iVal (xVar 0)) (gTupl 2 (gsCons (gSlot 2) (gsCons (gSlot 3) (gsNil)))) tYesB (xAnd (xCall (gst F) f_is_within [] (xCons (xVar 2) (xCons (xC (.int 0)) (xCons (xC (.int 9999)) (xNil))))) (xCall (gst F) f_is_fault [] (xCons (xVar 3) (xNil)))))) (xNil))))) (sSeq (sRet (xC (.bl false))) (sPass)) (sPass)) (sSeq (sRet (xCall (gst F) f_rises [] (xCons (xFrz (xComp [2, 3] (iVal (xVar 0)) (gTupl 2 (gsCons (gSlot 2) (gsCons (gSlot 3) (gsNil)))) tYesB (xVar 2))) (xNil)))) (sPass))))
def n_is_weather : List PySem.Str := ["thing", "row", "step", "fault"]
theorem q_is_weather (n : Nat) (ds : List D) (η : Hv) : Q (n + 1) f_is_weather ds η = frz η (finF (m_is_weather (Q n) (startE n_is_weather ds) η)) := by kernel_rfl
theorem u_is_weather (n : Nat) (a0 : D) (η : Hv) : Q (n + 1) f_is_weather [a0] η = frz η (finF (m_is_weather (Q n) [some a0, none, none, none] η)) := q_is_weather n _ η
def m_need_weather (F : Nat → List D → Hv → R D) : Stm := sSeq (sIf (xNotT (xTru (xCall (gst F) f_is_weather [] (xCons (xVar 0) (xNil))))) (sSeq (sRaise 5) (sPass)) (sPass)) (sPass)
def n_need_weather : List PySem.Str := ["thing"]
theorem q_need_weather (n : Nat) (ds : List D) (η : Hv) : Q (n + 1) f_need_weather ds η = frz η (finF (m_need_weather (Q n) (startE n_need_weather ds) η)) := by kernel_rfl
theorem u_need_weather (n : Nat) (a0 : D) (η : Hv) : Q (n + 1) f_need_weather [a0] η = frz η (finF (m_need_weather (Q n) [some a0] η)) := q_need_weather n _ η
def m_is_place (F : Nat → List D → Hv → R D) : Stm := sSeq (sRet (xCall (gst F) f_is_within [] (xCons (xVar 0) (xCons (xC (.int 0)) (xCons (xC (.int 15)) (xNil)))))) (sPass)
def n_is_place : List PySem.Str := ["thing"]
theorem q_is_place (n : Nat) (ds : List D) (η : Hv) : Q (n + 1) f_is_place ds η = frz η (finF (m_is_place (Q n) (startE n_is_place ds) η)) := by kernel_rfl
theorem u_is_place (n : Nat) (a0 : D) (η : Hv) : Q (n + 1) f_is_place [a0] η = frz η (finF (m_is_place (Q n) [some a0] η)) := q_is_place n _ η
def m_is_row (F : Nat → List D → Hv → R D) : Stm := sSeq (sIf (xOrT (xNotT (xTru (xIsT "tuple" (xVar 0)))) (xBool (x2 (cmpF .NotEq) (xFn (biH .len) (xCons (xVar 0) (xNil))) (xC (.int 2))))) (sSeq (sRet (xC (.bl false))) (sPass)) (sPass)) (sSeq (sRet (xAnd (xCall (gst F) f_is_place [] (xCons (xIx (xVar 0) (xC (.int 0))) (xNil))) (xCall (gst F) f_is_within [] (xCons (xIx (xVar 0) (xC (.int 1))) (xCons (xC (.int 0)) (xCons (xC (.int 63)) (xNil))))))) (sPass))
def n_is_row : List PySem.Str := ["thing"]
theorem q_is_row (n : Nat) (ds : List D) (η : Hv) : Q (n + 1) f_is_row ds η = frz η (finF (m_is_row (Q n) (startE n_is_row ds) η)) := by kernel_rfl
theorem u_is_row (n : Nat) (a0 : D) (η : Hv) : Q (n + 1) f_is_row [a0] η = frz η (finF (m_is_row (Q n) [some a0] η)) := q_is_row n _ η
def m_are_rows (F : Nat → List D → Hv → R D) : Stm := sSeq (sIf (xOrT (xNotT (xTru (xIsT "tuple" (xVar 0)))) (xOrT (xNotT (xBool (xChain (cmpF .LtE) (cmpF .LtE) (xC (.int 1)) (xFn (biH .len) (xCons (xVar 0) (xNil))) (xC (.int 4))))) (xNotT (xTru (xFn (biH .all) (xCons (xFrz (xComp [1] (iVal (xVar 0)) (gSlot 1) tYesB (xCall (gst F) f_is_row [] (xCons (xVar 1) (xNil))))) (xNil))))))) (sSeq (sRet (xC (.bl false))) (sPass)) (sPass)) (sSeq (sRet (x2 (cmpF .Eq) (xLenSet [2, 3] (iVal (xVar 0)) (gTupl 2 (gsCons (gSlot 2) (gsCons (gSlot 3) (gsNil)))) tYesB (xVar 2)) (xFn (biH .len) (xCons (xVar 0) (xNil))))) (sPass))
def n_are_rows : List PySem.Str := ["thing", "one", "place", "data"]
theorem q_are_rows (n : Nat) (ds : List D) (η : Hv) : Q (n + 1) f_are_rows ds η = frz η (finF (m_are_rows (Q n) (startE n_are_rows ds) η)) := by kernel_rfl
theorem u_are_rows (n : Nat) (a0 : D) (η : Hv) : Q (n + 1) f_are_rows [a0] η = frz η (finF (m_are_rows (Q n) [some a0, none, none, none] η)) := q_are_rows n _ η
def m_has_shape (F : Nat → List D → Hv → R D) : Stm := sSeq (sIf (xOrT (xNotT (xTru (xIsT "tuple" (xVar 0)))) (xOrT (xBool (x2 (cmpF .Eq) (xVar 0) (xTup (xNil)))) (xNotT (xTru (xIsT "str" (xIx (xVar 0) (xC (.int 0)))))))) (sSeq (sRet (xC (.bl false))) (sPass)) (sPass)) (sSeq (sAsg (xVar 0) (gStarF (gSlot 1) (gSlot 2))) (sSeq (sIf (xBool (x2 (cmpF .Eq) (xVar 1) (xC (.str "mend")))) (sSeq (sRet (x2 (cmpF .Eq) (xVar 2) (xFrz (xLst (xNil))))) (sPass)) (sPass)) (sSeq (sIf (xBool (x2 (cmpF .Eq) (xVar 1) (xC (.str "write")))) (sSeq (sRet (xCall (gst F) f_is_row [] (xCons (xFrz (xSlc (xVar 0) (xPart (xC (.int 1))) xNoPart)) (xNil)))) (sPass)) (sPass)) (sSeq (sIf (xBool (x2 (cmpF .NotEq) (xFn (biH .len) (xCons (xVar 2) (xNil))) (xC (.int 1)))) (sSeq (sRet (xC (.bl false))) (sPass)) (sPass)) (sSeq (sIf (xBool (x2 (cmpF .Eq) (xVar 1) (xC (.str "group")))) (sSeq (sRet (xCall (gst F) f_are_rows [] (xCons (xIx (xVar 2) (xC (.int 0))) (xNil)))) (sPass)) (sPass)) (sSeq (sRet (xAnd (x2 (cmpF .In) (xVar 1) (xTup (xCons (xC (.str "read")) (xCons (xC (.str "trim")) (xNil))))) (xCall (gst F) f_is_place [] (xCons (xIx (xVar 2) (xC (.int 0))) (xNil))))) (sPass)))))))
def n_has_shape : List PySem.Str := ["thing", "word", "things"]
theorem q_has_shape (n : Nat) (ds : List D) (η : Hv) : Q (n + 1) f_has_shape ds η = frz η (finF (m_has_shape (Q n) (startE n_has_shape ds) η)) := by kernel_rfl
theorem u_has_shape (n : Nat) (a0 : D) (η : Hv) : Q (n + 1) f_has_shape [a0] η = frz η (finF (m_has_shape (Q n) [some a0, none, none] η)) := q_has_shape n _ η
def m_written (F : Nat → List D → Hv → R D) : Stm := sSeq (sAsg (xVar 0) (gStarF (gSlot 1) (gSlot 2))) (sSeq (sIf (xBool (x2 (cmpF .Eq) (xVar 1) (xC (.str "group")))) (sSeq (sAsg (xFrz (xComp2 [3, 4] [3, 4] (iVal (xIx (xVar 2) (xC (.int 0)))) (gSlot 3) tYesB (iVal (xVar 3)) (gSlot 4) tYesB (xVar 4))) (gSlot 2)) (sPass)) (sPass)) (sSeq (sRet (xBm (gst F) "join" (xC (.str " ")) (xCons (xFrz (x2 (binF .Add) (xFrz (xLst (xCons (xVar 1) (xNil)))) (xFrz (xComp [4] (iVal (xVar 2)) (gSlot 4) tYesB (xFn (biH .str) (xCons (xVar 4) (xNil))))))) (xNil)))) (sPass)))
def n_written : List PySem.Str := ["order", "word", "things", "row", "number"]
theorem q_written (n : Nat) (ds : List D) (η : Hv) : Q (n + 1) f_written ds η = frz η (finF (m_written (Q n) (startE n_written ds) η)) := by kernel_rfl
theorem u_written (n : Nat) (a0 : D) (η : Hv) : Q (n + 1) f_written [a0] η = frz η (finF (m_written (Q n) [some a0, none, none, none, none] η)) := q_written n _ η
def m_order_text (F : Nat → List D → Hv → R D) : Stm := sSeq (sIf (xNotT (xTru (xCall (gst F) f_has_shape [] (xCons (xVar 0) (xNil))))) (sSeq (sRaise 10) (sPass)) (sPass)) (sSeq (sRet (xCall (gst F) f_written [] (xCons (xVar 0) (xNil)))) (sPass))
def n_order_text : List PySem.Str := ["order"]
theorem q_order_text (n : Nat) (ds : List D) (η : Hv) : Q (n + 1) f_order_text ds η = frz η (finF (m_order_text (Q n) (startE n_order_text ds) η)) := by kernel_rfl
theorem u_order_text (n : Nat) (a0 : D) (η : Hv) : Q (n + 1) f_order_text [a0] η = frz η (finF (m_order_text (Q n) [some a0] η)) := q_order_text n _ η
def m_weather_text (F : Nat → List D → Hv → R D) : Stm := sSeq (sExp (xCall (gst F) f_need_weather [] (xCons (xVar 0) (xNil)))) (sSeq (sAsg (xLst (xNil)) (gSlot 1)) (sSeq (sFor (iVal (xVar 0)) (gTupl 2 (gsCons (gSlot 2) (gsCons (gStarF (gSlot 3) (gSlot 4)) (gsNil)))) (sSeq (sExp (xBm (gst F) "append" (xVar 1) (xCons (xFrz (x2 (binF .Add) (xJoin [x1 fmtD (xVar 2), x1 fmtD (xC (.str ":")), x1 fmtD (xVar 3)]) (xBm (gst F) "join" (xC (.str "")) (xCons (xFrz (xComp [5] (iVal (xVar 4)) (gSlot 5) tYesB (xFn (biH .str) (xCons (xVar 5) (xNil))))) (xNil))))) (xNil)))) (sPass))) (sSeq (sRet (xOr (xBm (gst F) "join" (xC (.str " ")) (xCons (xVar 1) (xNil))) (xC (.str "-")))) (sPass))))
def n_weather_text : List PySem.Str := ["weather", "found", "step", "word", "numbers", "number"]
theorem q_weather_text (n : Nat) (ds : List D) (η : Hv) : Q (n + 1) f_weather_text ds η = frz η (finF (m_weather_text (Q n) (startE n_weather_text ds) η)) := by kernel_rfl
theorem u_weather_text (n : Nat) (a0 : D) (η : Hv) : Q (n + 1) f_weather_text [a0] η = frz η (finF (m_weather_text (Q n) [some a0, none, none, none, none, none] η)) := q_weather_text n _ η
def m_number_in (F : Nat → List D → Hv → R D) : Stm := sSeq (sIf (xOrT (xNotT (xBool (xChain (cmpF .LtE) (cmpF .LtE) (xC (.int 1)) (xFn (biH .len) (xCons (xVar 0) (xNil))) (xC (.int 9))))) (xNotT (xTru (xFn (biH .all) (xCons (xFrz (xComp [1] (iVal (xVar 0)) (gSlot 1) tYesB (x2 (cmpF .In) (xVar 1) (xC (.str "0123456789"))))) (xNil)))))) (sSeq (sRet (xC .non)) (sPass)) (sPass)) (sSeq (sRet (xIf (xOrT (xBool (x2 (cmpF .NotEq) (xIx (xVar 0) (xC (.int 0))) (xC (.str "0")))) (xBool (x2 (cmpF .Eq) (xVar 0) (xC (.str "0"))))) (xFn (biH .int) (xCons (xVar 0) (xNil))) (xC .non))) (sPass))
def n_number_in : List PySem.Str := ["word", "sign"]
theorem q_number_in (n : Nat) (ds : List D) (η : Hv) : Q (n + 1) f_number_in ds η = frz η (finF (m_number_in (Q n) (startE n_number_in ds) η)) := by kernel_rfl
theorem u_number_in (n : Nat) (a0 : D) (η : Hv) : Q (n + 1) f_number_in [a0] η = frz η (finF (m_number_in (Q n) [some a0, none] η)) := q_number_in n _ η
def m_numbers_in (F : Nat → List D → Hv → R D) : Stm := sSeq (sAsg (xFrz (xComp [2] (iVal (xVar 0)) (gSlot 2) tYesB (xCall (gst F) f_number_in [] (xCons (xVar 2) (xNil))))) (gSlot 1)) (sSeq (sRet (xIf (xBool (x2 (cmpF .In) (xC .non) (xVar 1))) (xC .non) (xFn (biH .tuple) (xCons (xVar 1) (xNil))))) (sPass))
def n_numbers_in : List PySem.Str := ["words", "found", "word"]
theorem q_numbers_in (n : Nat) (ds : List D) (η : Hv) : Q (n + 1) f_numbers_in ds η = frz η (finF (m_numbers_in (Q n) (startE n_numbers_in ds) η)) := by kernel_rfl
theorem u_numbers_in (n : Nat) (a0 : D) (η : Hv) : Q (n + 1) f_numbers_in [a0] η = frz η (finF (m_numbers_in (Q n) [some a0, none, none] η)) := q_numbers_in n _ η
def m_order_in (F : Nat → List D → Hv → R D) : Stm := sSeq (sAsg (xBm (gst F) "split" (xVar 0) (xCons (xC (.str " ")) (xNil))) (gStarF (gSlot 3) (gSlot 4))) (sSeq (sAsg (xCall (gst F) f_numbers_in [] (xCons (xVar 4) (xNil))) (gSlot 1)) (sSeq (sIf (xBool (x2 (cmpF .Is) (xVar 1) (xC .non))) (sSeq (sRet (xC .non)) (sPass)) (sPass)) (sSeq (sAsg (xFrz (x2 (binF .Add) (xTup (xCons (xVar 3) (xNil))) (xVar 1))) (gSlot 2)) (sSeq (sIf (xBool (x2 (cmpF .Eq) (xVar 3) (xC (.str "group")))) (sSeq (sAsg (xIf (xBool (x2 (cmpF .Eq) (x2 (binF .Mod) (xFn (biH .len) (xCons (xVar 1) (xNil))) (xC (.int 2))) (xC (.int 0)))) (xTup (xCons (xVar 3) (xCons (xTupZip (xCons (xFrz (xStp (xVar 1) xNoPart xNoPart (xPart (xC (.int 2))))) (xCons (xFrz (xStp (xVar 1) (xPart (xC (.int 1))) xNoPart (xPart (xC (.int 2))))) (xNil)))) (xNil)))) (xTup (xNil))) (gSlot 2)) (sPass)) (sPass)) (sSeq (sRet (xIf (xTru (xCall (gst F) f_has_shape [] (xCons (xVar 2) (xNil)))) (xVar 2) (xC .non))) (sPass))))))
def n_order_in : List PySem.Str := ["text", "numbers", "found", "word", "words"]
theorem q_order_in (n : Nat) (ds : List D) (η : Hv) : Q (n + 1) f_order_in ds η = frz η (finF (m_order_in (Q n) (startE n_order_in ds) η)) := by kernel_rfl
theorem u_order_in (n : Nat) (a0 : D) (η : Hv) : Q (n + 1) f_order_in [a0] η = frz η (finF (m_order_in (Q n) [some a0, none, none, none, none] η)) := q_order_in n _ η
def m_fault_in (F : Nat → List D → Hv → R D) : Stm := sSeq (sAsg (xBm (gst F) "partition" (xVar 0) (xCons (xC (.str ":")) (xNil))) (gTupl 3 (gsCons (gSlot 3) (gsCons (gSlot 4) (gsCons (gSlot 5) (gsNil)))))) (sSeq (sAsg (xCall (gst F) f_number_in [] (xCons (xVar 3) (xNil))) (gSlot 1)) (sSeq (sIf (xOrT (xBool (x2 (cmpF .Is) (xVar 1) (xC .non))) (xBool (x2 (cmpF .Eq) (xVar 4) (xC (.str ""))))) (sSeq (sRet (xC .non)) (sPass)) (sPass)) (sSeq (sIf (xBool (x2 (cmpF .In) (xVar 5) (xTup (xCons (xC (.str "cut")) (xCons (xC (.str "bad")) (xNil)))))) (sSeq (sRet (xTup (xCons (xVar 1) (xCons (xTup (xCons (xVar 5) (xNil))) (xNil))))) (sPass)) (sPass)) (sSeq (sAsg (xIf (xTru (xBm (gst F) "startswith" (xVar 5) (xCons (xC (.str "bit")) (xNil)))) (xCall (gst F) f_number_in [] (xCons (xFrz (xSlc (xVar 5) (xPart (xFn (biH .len) (xCons (xC (.str "bit")) (xNil)))) xNoPart)) (xNil))) (xC .non)) (gSlot 2)) (sSeq (sRet (xIf (xBool (x2 (cmpF .Is) (xVar 2) (xC .non))) (xC .non) (xTup (xCons (xVar 1) (xCons (xTup (xCons (xC (.str "bit")) (xCons (xVar 2) (xNil)))) (xNil)))))) (sPass))))))
def n_fault_in : List PySem.Str := ["word", "number", "bit", "step", "sign", "fault"]
theorem q_fault_in (n : Nat) (ds : List D) (η : Hv) : Q (n + 1) f_fault_in ds η = frz η (finF (m_fault_in (Q n) (startE n_fault_in ds) η)) := by kernel_rfl
theorem u_fault_in (n : Nat) (a0 : D) (η : Hv) : Q (n + 1) f_fault_in [a0] η = frz η (finF (m_fault_in (Q n) [some a0, none, none, none, none, none] η)) := q_fault_in n _ η
def m_read_order (F : Nat → List D → Hv → R D) : Stm := sSeq (sAsg (xIf (xTru (xIsT "str" (xVar 0))) (xCall (gst F) f_order_in [] (xCons (xVar 0) (xNil))) (xC .non)) (gSlot 1)) (sSeq (sIf (xBool (x2 (cmpF .Is) (xVar 1) (xC .non))) (sSeq (sRaise 14) (sPass)) (sPass)) (sSeq (sRet (xVar 1)) (sPass)))
def n_read_order : List PySem.Str := ["text", "found"]
theorem q_read_order (n : Nat) (ds : List D) (η : Hv) : Q (n + 1) f_read_order ds η = frz η (finF (m_read_order (Q n) (startE n_read_order ds) η)) := by kernel_rfl
theorem u_read_order (n : Nat) (a0 : D) (η : Hv) : Q (n + 1) f_read_order [a0] η = frz η (finF (m_read_order (Q n) [some a0, none] η)) := q_read_order n _ η
def m_read_weather (F : Nat → List D → Hv → R D) : Stm := sSeq (sIf (xNotT (xTru (xIsT "str" (xVar 0)))) (sSeq (sRaise 14) (sPass)) (sPass)) (sSeq (sAsg (xIf (xBool (x2 (cmpF .NotEq) (xVar 0) (xC (.str "-")))) (xFn (biH .tuple) (xCons (xFrz (xComp [2] (iVal (xFrz (xBm (gst F) "split" (xVar 0) (xCons (xC (.str " ")) (xNil))))) (gSlot 2) tYesB (xCall (gst F) f_fault_in [] (xCons (xVar 2) (xNil))))) (xNil))) (xTup (xNil))) (gSlot 1)) (sSeq (sIf (xOrT (xBool (x2 (cmpF .In) (xC .non) (xVar 1))) (xNotT (xTru (xCall (gst F) f_is_weather [] (xCons (xVar 1) (xNil)))))) (sSeq (sRaise 14) (sPass)) (sPass)) (sSeq (sRet (xVar 1)) (sPass))))
def n_read_weather : List PySem.Str := ["text", "found", "word"]
theorem q_read_weather (n : Nat) (ds : List D) (η : Hv) : Q (n + 1) f_read_weather ds η = frz η (finF (m_read_weather (Q n) (startE n_read_weather ds) η)) := by kernel_rfl
theorem u_read_weather (n : Nat) (a0 : D) (η : Hv) : Q (n + 1) f_read_weather [a0] η = frz η (finF (m_read_weather (Q n) [some a0, none, none] η)) := q_read_weather n _ η
def m__law_cell_at (F : Nat → List D → Hv → R D) : Stm := sSeq (sIf (xBool (x2 (cmpF .Lt) (xVar 1) (xFn (biH .len) (xCons (xVar 0) (xNil))))) (sSeq (sRet (xIx (xVar 0) (xVar 1))) (sPass)) (sPass)) (sSeq (sRet (xC (.int 0))) (sPass))
def n__law_cell_at : List PySem.Str := ["_law_script", "_law_k"]
theorem q__law_cell_at (n : Nat) (ds : List D) (η : Hv) : Q (n + 1) f__law_cell_at ds η = frz η (finF (m__law_cell_at (Q n) (startE n__law_cell_at ds) η)) := by kernel_rfl
theorem u__law_cell_at (n : Nat) (a0 a1 : D) (η : Hv) : Q (n + 1) f__law_cell_at [a0, a1] η = frz η (finF (m__law_cell_at (Q n) [some a0, some a1] η)) := q__law_cell_at n _ η
def m__law_state (F : Nat → List D → Hv → R D) : Stm := sSeq (sAsg (xCall (gst F) f__law_cell_at [] (xCons (xVar 0) (xCons (xVar 1) (xNil)))) (gSlot 2)) (sSeq (sRet (xLst (xCons (xFn (biH .max) (xCons (xC (.int 0)) (xCons (x2 (binF .Sub) (xVar 2) (x2 (binF .Pow) (xC (.int 10)) (xC (.int 18)))) (xNil)))) (xCons (x2 (binF .Add) (x2 (binF .Mod) (xVar 2) (xC (.int 2147483629))) (xC (.int 1))) (xCons (xC (.int 0)) (xNil)))))) (sPass))
def n__law_state : List PySem.Str := ["_law_script", "_law_k", "_law_cell"]
theorem q__law_state (n : Nat) (ds : List D) (η : Hv) : Q (n + 1) f__law_state ds η = finF (m__law_state (Q n) (startE n__law_state ds) η) := by kernel_rfl
theorem u__law_state (n : Nat) (a0 a1 : D) (η : Hv) : Q (n + 1) f__law_state [a0, a1] η = finF (m__law_state (Q n) [some a0, some a1, none] η) := q__law_state n _ η
def m__law_choice (F : Nat → List D → Hv → R D) : Stm := sSeq (sIf (xBool (x2 (cmpF .Gt) (xIx (xVar 0) (xC (.int 0))) (xC (.int 0)))) (sSeq (sAsg (x2 (binF .Mod) (xIx (xVar 0) (xC (.int 0))) (xVar 1)) (gSlot 3)) (sSeq (sAsg (x2 (binF .FloorDiv) (xIx (xVar 0) (xC (.int 0))) (xVar 1)) (gIx (xVar 0) (xC (.int 0)))) (sSeq (sRet (xVar 3)) (sPass)))) (sPass)) (sSeq (sAsg (x2 (binF .Add) (xIx (xVar 0) (xC (.int 2))) (xC (.int 1))) (gIx (xVar 0) (xC (.int 2)))) (sSeq (sAsg (x2 (binF .Mod) (x2 (binF .Add) (x2 (binF .Add) (x2 (binF .Mult) (xIx (xVar 0) (xC (.int 1))) (xC (.int 48271))) (xC (.int 29))) (xIx (xVar 0) (xC (.int 2)))) (xC (.int 2147483647))) (gIx (xVar 0) (xC (.int 1)))) (sSeq (sAsg (x2 (binF .Mod) (xFrz (x2 (binF .Add) (xFrz (x2 (binF .Add) (xFrz (x2 (binF .Mult) (xIx (xVar 0) (xC (.int 1))) (xIx (xVar 0) (xC (.int 1))))) (xFrz (x2 (binF .Mult) (xC (.int 39373)) (xIx (xVar 0) (xC (.int 1))))))) (xC (.int 7)))) (xC (.int 2147483629))) (gSlot 2)) (sSeq (sAsg (x2 (binF .Mod) (xFrz (x2 (binF .Add) (xFrz (x2 (binF .Mult) (xVar 2) (xVar 2))) (xFrz (x2 (binF .Mult) (xC (.int 50021)) (xVar 2))))) (xC (.int 2147483587))) (gSlot 2)) (sSeq (sRet (x2 (binF .Mod) (x2 (binF .FloorDiv) (xVar 2) (xC (.int 8))) (xVar 1))) (sPass))))))
def n__law_choice : List PySem.Str := ["_law_state_here", "_law_many", "_law_mixed", "_law_found"]
theorem q__law_choice (n : Nat) (ds : List D) (η : Hv) : Q (n + 1) f__law_choice ds η = frz η (finF (m__law_choice (Q n) (startE n__law_choice ds) η)) := by kernel_rfl
theorem u__law_choice (n : Nat) (a0 a1 : D) (η : Hv) : Q (n + 1) f__law_choice [a0, a1] η = frz η (finF (m__law_choice (Q n) [some a0, some a1, none, none] η)) := q__law_choice n _ η
def m__law_order (F : Nat → List D → Hv → R D) : Stm := sSeq (sPar (xCons (xCall (gst F) f__law_choice [] (xCons (xVar 0) (xCons (xC (.int 9)) (xNil)))) (xCons (xCall (gst F) f__law_choice [] (xCons (xVar 0) (xCons (xIx (xVar 1) (xC (.int 2))) (xNil)))) (xNil))) (gsCons (gSlot 2) (gsCons (gSlot 3) (gsNil)))) (sSeq (sIf (xBool (x2 (cmpF .Lt) (xVar 2) (xC (.int 4)))) (sSeq (sRet (xTup (xCons (xC (.str "write")) (xCons (xVar 3) (xCons (xCall (gst F) f__law_choice [] (xCons (xVar 0) (xCons (xC (.int 64)) (xNil)))) (xNil)))))) (sPass)) (sPass)) (sSeq (sIf (xBool (x2 (cmpF .Eq) (xVar 2) (xC (.int 4)))) (sSeq (sRet (xTup (xCons (xC (.str "trim")) (xCons (xVar 3) (xNil))))) (sPass)) (sPass)) (sSeq (sIf (xBool (x2 (cmpF .Lt) (xVar 2) (xC (.int 7)))) (sSeq (sPar (xCons (xListRng (iRng1 (xIx (xVar 1) (xC (.int 2))))) (xCons (xLst (xNil)) (xNil))) (gsCons (gSlot 5) (gsCons (gSlot 6) (gsNil)))) (sSeq (sFor (iRng1 (xFrz (x2 (binF .Add) (xC (.int 1)) (xCall (gst F) f__law_choice [] (xCons (xVar 0) (xCons (xFn (biH .min) (xCons (xC (.int 4)) (xCons (xIx (xVar 1) (xC (.int 2))) (xNil)))) (xNil))))))) (gSlot 4) (sSeq (sExp (xBm (gst F) "append" (xVar 6) (xCons (xTup (xCons (xBm (gst F) "pop" (xVar 5) (xCons (xCall (gst F) f__law_choice [] (xCons (xVar 0) (xCons (xFn (biH .len) (xCons (xVar 5) (xNil))) (xNil)))) (xNil))) (xCons (xCall (gst F) f__law_choice [] (xCons (xVar 0) (xCons (xC (.int 64)) (xNil)))) (xNil)))) (xNil)))) (sPass))) (sSeq (sRet (xTup (xCons (xC (.str "group")) (xCons (xFn (biH .tuple) (xCons (xVar 6) (xNil))) (xNil))))) (sPass)))) (sPass)) (sSeq (sRet (xTup (xCons (xC (.str "read")) (xCons (xVar 3) (xNil))))) (sPass)))))
def n__law_order : List PySem.Str := ["_law_state_here", "_law_plan", "_law_way", "_law_place", "_law_lap", "_law_places", "_law_rows"]
theorem q__law_order (n : Nat) (ds : List D) (η : Hv) : Q (n + 1) f__law_order ds η = frz η (finF (m__law_order (Q n) (startE n__law_order ds) η)) := by kernel_rfl
theorem u__law_order (n : Nat) (a0 a1 : D) (η : Hv) : Q (n + 1) f__law_order [a0, a1] η = frz η (finF (m__law_order (Q n) [some a0, some a1, none, none, none, none, none] η)) := q__law_order n _ η
def m__law_any_weather (F : Nat → List D → Hv → R D) : Stm := sSeq (sAsg (xDictNew) (gSlot 2)) (sSeq (sFor (iRng1 (xIx (xFrz (xLst (xCons (xC (.int 0)) (xCons (xC (.int 1)) (xCons (xC (.int 5)) (xCons (xC (.int 40)) (xNil))))))) (xCall (gst F) f__law_choice [] (xCons (xVar 0) (xCons (xC (.int 4)) (xNil)))))) (gSlot 3) (sSeq (sAsg (xIx (xFrz (xLst (xCons (xTup (xCons (xC (.str "cut")) (xNil))) (xCons (xTup (xCons (xC (.str "bad")) (xNil))) (xCons (xTup (xCons (xC (.str "bit")) (xCons (xCall (gst F) f__law_choice [] (xCons (xVar 0) (xCons (xC (.int 47)) (xNil)))) (xNil)))) (xCons (xTup (xCons (xC (.str "bit")) (xCons (xC (.int 46)) (xNil)))) (xNil))))))) (xCall (gst F) f__law_choice [] (xCons (xVar 0) (xCons (xC (.int 4)) (xNil))))) (gSlot 4)) (sSeq (sAsg (xIx (xFrz (xLst (xCons (xC (.int 9999)) (xCons (xC (.int 0)) (xCons (xCall (gst F) f__law_choice [] (xCons (xVar 0) (xCons (xVar 1) (xNil)))) (xNil)))))) (xFn (biH .min) (xCons (xC (.int 2)) (xCons (xCall (gst F) f__law_choice [] (xCons (xVar 0) (xCons (xC (.int 12)) (xNil)))) (xNil))))) (gSlot 5)) (sSeq (sAsg (xVar 4) (gIx (xVar 2) (xVar 5))) (sPass))))) (sSeq (sRet (xFn (biH .tuple) (xCons (xFrz (xComp [5] (iVal (xFrz (xFn (biH .sorted) (xCons (xVar 2) (xNil))))) (gSlot 5) tYesB (xTup (xCons (xVar 5) (xCons (xIx (xVar 2) (xVar 5)) (xNil)))))) (xNil)))) (sPass)))
def n__law_any_weather : List PySem.Str := ["_law_state_here", "_law_far_step", "_law_rows", "_law_lap", "_law_fault", "_law_step"]
theorem q__law_any_weather (n : Nat) (ds : List D) (η : Hv) : Q (n + 1) f__law_any_weather ds η = frz η (finF (m__law_any_weather (Q n) (startE n__law_any_weather ds) η)) := by kernel_rfl
theorem u__law_any_weather (n : Nat) (a0 a1 : D) (η : Hv) : Q (n + 1) f__law_any_weather [a0, a1] η = frz η (finF (m__law_any_weather (Q n) [some a0, some a1, none, none, none, none] η)) := q__law_any_weather n _ η
def m__law_any_order (F : Nat → List D → Hv → R D) : Stm := sSeq (sAsg (xTup (xCons (xC (.int 8)) (xCons (xC (.int 8)) (xCons (xC (.int 16)) (xCons (xC (.bl true)) (xCons (xC (.bl true)) (xNil))))))) (gSlot 1)) (sSeq (sRet (xIx (xFrz (xLst (xCons (xCall (gst F) f__law_order [] (xCons (xVar 0) (xCons (xVar 1) (xNil)))) (xCons (xTup (xCons (xC (.str "mend")) (xNil))) (xCons (xCall (gst F) f__law_order [] (xCons (xVar 0) (xCons (xVar 1) (xNil)))) (xNil)))))) (x2 (binF .FloorDiv) (xCall (gst F) f__law_choice [] (xCons (xVar 0) (xCons (xC (.int 5)) (xNil)))) (xC (.int 2))))) (sPass))
def n__law_any_order : List PySem.Str := ["_law_state_here", "_law_wide"]
theorem q__law_any_order (n : Nat) (ds : List D) (η : Hv) : Q (n + 1) f__law_any_order ds η = frz η (finF (m__law_any_order (Q n) (startE n__law_any_order ds) η)) := by kernel_rfl
theorem u__law_any_order (n : Nat) (a0 : D) (η : Hv) : Q (n + 1) f__law_any_order [a0] η = frz η (finF (m__law_any_order (Q n) [some a0, none] η)) := q__law_any_order n _ η
def m__law_again (F : Nat → List D → Hv → R D) : Stm := sSeq (sAsg (xLst (xCons (xSaid (x2 (cmpF .Eq) (xCall (gst F) f_order_text [] (xCons (xCall (gst F) f_read_order [] (xCons (xVar 0) (xNil))) (xNil))) (xVar 0)) saidW) (xNil))) (gSlot 1)) (sSeq (sExp (xBm (gst F) "append" (xVar 1) (xCons (xSaid (x2 (cmpF .Eq) (xCall (gst F) f_weather_text [] (xCons (xCall (gst F) f_read_weather [] (xCons (xVar 0) (xNil))) (xNil))) (xVar 0)) saidW) (xNil)))) (sSeq (sExp (xBm (gst F) "append" (xVar 1) (xCons (xSaid (xCall (gst F) f_is_weather [] (xCons (xCall (gst F) f_read_weather [] (xCons (xVar 0) (xNil))) (xNil))) saidW) (xNil)))) (sSeq (sRet (x2 (cmpF .Eq) (xFrz (xComp [2] (iVal (xVar 1)) (gSlot 2) (xBool (x2 (cmpF .NotIn) (xVar 2) (xTup (xCons (xC (.str "True")) (xCons (xC (.str "! text")) (xNil)))))) (xVar 2))) (xFrz (xLst (xNil))))) (sPass))))
def n__law_again : List PySem.Str := ["_law_text", "_law_words", "_law_word"]
theorem q__law_again (n : Nat) (ds : List D) (η : Hv) : Q (n + 1) f__law_again ds η = frz η (finF (m__law_again (Q n) (startE n__law_again ds) η)) := by kernel_rfl
theorem u__law_again (n : Nat) (a0 : D) (η : Hv) : Q (n + 1) f__law_again [a0] η = frz η (finF (m__law_again (Q n) [some a0, none, none] η)) := q__law_again n _ η
def m__law_right (F : Nat → List D → Hv → R D) : Stm := sSeq (sPar (xCons (xFrz (xComp [8] (iRng1 (xC (.int 4))) (gSlot 8) tYesB (xCall (gst F) f__law_any_order [] (xCons (xVar 0) (xNil))))) (xCons (xFrz (xComp [8] (iRng1 (xC (.int 3))) (gSlot 8) tYesB (xCall (gst F) f__law_any_weather [] (xCons (xVar 0) (xCons (xC (.int 60)) (xNil)))))) (xNil))) (gsCons (gSlot 3) (gsCons (gSlot 4) (gsNil)))) (sSeq (sFor (iVal (xVar 3)) (gSlot 1) (sSeq (sIf (xBool (x2 (cmpF .NotEq) (xFrz (xComp [9] (iVal (xVar 3)) (gSlot 9) (xBool (x2 (cmpF .NotEq) (x2 (cmpF .Eq) (xCall (gst F) f_order_text [] (xCons (xVar 1) (xNil))) (xCall (gst F) f_order_text [] (xCons (xVar 9) (xNil)))) (x2 (cmpF .Eq) (xVar 1) (xVar 9)))) (xVar 9))) (xFrz (xLst (xNil))))) (sSeq (sRet (xC (.bl false))) (sPass)) (sPass)) (sPass))) (sSeq (sFor (iVal (xVar 4)) (gSlot 1) (sSeq (sIf (xBool (x2 (cmpF .NotEq) (xFrz (xComp [9] (iVal (xVar 4)) (gSlot 9) (xBool (x2 (cmpF .NotEq) (x2 (cmpF .Eq) (xCall (gst F) f_weather_text [] (xCons (xVar 1) (xNil))) (xCall (gst F) f_weather_text [] (xCons (xVar 9) (xNil)))) (x2 (cmpF .Eq) (xVar 1) (xVar 9)))) (xVar 9))) (xFrz (xLst (xNil))))) (sSeq (sRet (xC (.bl false))) (sPass)) (sPass)) (sPass))) (sSeq (sFor (iVal (xFrz (x2 (binF .Add) (xFrz (xComp [1] (iVal (xVar 3)) (gSlot 1) tYesB (xCall (gst F) f_order_text [] (xCons (xVar 1) (xNil))))) (xFrz (xComp [1] (iVal (xVar 4)) (gSlot 1) tYesB (xCall (gst F) f_weather_text [] (xCons (xVar 1) (xNil)))))))) (gSlot 2) (sSeq (sAsg (xFrz (xBm (gst F) "split" (xVar 2) (xCons (xC (.str " ")) (xNil)))) (gSlot 5)) (sSeq (sAsg (xCall (gst F) f__law_choice [] (xCons (xVar 0) (xCons (xFn (biH .len) (xCons (xVar 5) (xNil))) (xNil)))) (gSlot 6)) (sSeq (sFor (iVal (xFrz (xLst (xCons (xVar 5) (xCons (xFrz (x2 (binF .Add) (xFrz (xSlc (xVar 5) xNoPart (xPart (xVar 6)))) (xFrz (xSlc (xVar 5) (xPart (xFrz (x2 (binF .Add) (xVar 6) (xC (.int 1))))) xNoPart)))) (xCons (xFrz (x2 (binF .Add) (xFrz (xSlc (xVar 5) xNoPart (xPart (xFrz (x2 (binF .Add) (xVar 6) (xC (.int 1))))))) (xFrz (xSlc (xVar 5) (xPart (xVar 6)) xNoPart)))) (xCons (xFrz (xStp (xVar 5) xNoPart xNoPart (xPart (x1 negD (xC (.int 1)))))) (xCons (xFrz (xSlc (xVar 5) xNoPart (xPart (xFrz (x2 (binF .Add) (xVar 6) (xC (.int 1))))))) (xNil))))))))) (gSlot 7) (sSeq (sIf (xNotT (xTru (xCall (gst F) f__law_again [] (xCons (xBm (gst F) "join" (xC (.str " ")) (xCons (xVar 7) (xNil))) (xNil))))) (sSeq (sRet (xC (.bl false))) (sPass)) (sPass)) (sPass))) (sPass))))) (sSeq (sRet (xC (.bl true))) (sPass)))))
def n__law_right : List PySem.Str := ["_law_state_here", "_law_one", "_law_text", "_law_orders", "_law_storms", "_law_words", "_law_at", "_law_row", "_law_lap", "_law_other"]
theorem q__law_right (n : Nat) (ds : List D) (η : Hv) : Q (n + 1) f__law_right ds η = frz η (finF (m__law_right (Q n) (startE n__law_right ds) η)) := by kernel_rfl
theorem u__law_right (n : Nat) (a0 : D) (η : Hv) : Q (n + 1) f__law_right [a0] η = frz η (finF (m__law_right (Q n) [some a0, none, none, none, none, none, none, none, none, none] η)) := q__law_right n _ η
def m_law (F : Nat → List D → Hv → R D) : Stm := sSeq (sFor (iRng1 (xFn (biH .max) (xCons (xC (.int 1)) (xCons (xFn (biH .min) (xCons (xFn (biH .len) (xCons (xVar 0) (xNil))) (xCons (xC (.int 3)) (xNil)))) (xNil))))) (gSlot 1) (sSeq (sAsg (xCall (gst F) f__law_state [] (xCons (xVar 0) (xCons (xVar 1) (xNil)))) (gSlot 2)) (sSeq (sFor (iRng1 (xC (.int 3))) (gSlot 3) (sSeq (sIf (xNotT (xTru (xCall (gst F) f__law_right [] (xCons (xVar 2) (xNil))))) (sSeq (sRet (xC (.bl false))) (sPass)) (sPass)) (sPass))) (sPass)))) (sSeq (sRet (xC (.bl true))) (sPass))
def n_law : List PySem.Str := ["_law_script", "_law_k", "_law_state_here", "_law_nth"]
theorem q_law (n : Nat) (ds : List D) (η : Hv) : Q (n + 1) f_law ds η = frz η (finF (m_law (Q n) (startE n_law ds) η)) := by kernel_rfl
theorem u_law (n : Nat) (a0 : D) (η : Hv) : Q (n + 1) f_law [a0] η = frz η (finF (m_law (Q n) [some a0, none, none, none] η)) := q_law n _ η
theorem gst_F (F) : (gst F).F = F := rfl
theorem gst_B (F) : (gst F).B = biH := rfl
theorem gst_M (F) : (gst F).M = mtG := rfl
theorem gst_mok (F) : (gst F).mok = mtOkG := rfl
end Mi
end

section
set_option maxRecDepth 100000
set_option maxHeartbeats 4000000
/-! P0: values, what freezing does, walks, comprehensions, loops. -/
noncomputable section
namespace En
open PySem PySem.Spec PyProof.Rows L2
/-! ### values without addresses -/
mutual
def noRef : D → Bool
  | .ref _ => false
  | .tup xs => noRefs xs
  | .lst xs => noRefs xs
  | .scr xs => noRefs xs
  | _ => true
def noRefs : List D → Bool
  | [] => true
  | d :: r => noRef d && noRefs r
end
mutual
theorem ltD_of {n : Nat} : ∀ {d : D}, noRef d = true → ltD n d = true
  | .non, _ => rfl
  | .bl _, _ => rfl
  | .int _, _ => rfl
  | .str _, _ => rfl
  | .exc _, _ => rfl
  | .ref _, h => by cases h
  | .tup xs, h => ltL_of (xs := xs) h
  | .lst xs, h => ltL_of (xs := xs) h
  | .scr xs, h => ltL_of (xs := xs) h
theorem ltL_of {n : Nat} : ∀ {xs : List D}, noRefs xs = true → ltL n xs = true
  | [], _ => rfl
  | d :: r, h => by
    unfold noRefs at h
    rw [Bool.and_eq_true] at h
    unfold ltL
    rw [ltD_of h.1, ltL_of h.2]
    rfl
end
mutual
theorem ltD_mono {n m : Nat} (hn : n ≤ m) : ∀ {d : D}, ltD n d = true → ltD m d = true
  | .non, _ => rfl
  | .bl _, _ => rfl
  | .int _, _ => rfl
  | .str _, _ => rfl
  | .exc _, _ => rfl
  | .ref i, h => by
    unfold ltD at h ⊢
    exact decide_eq_true (Nat.lt_of_lt_of_le (of_decide_eq_true h) hn)
  | .tup xs, h => ltL_mono hn (xs := xs) h
  | .lst xs, h => ltL_mono hn (xs := xs) h
  | .scr xs, h => ltL_mono hn (xs := xs) h
theorem ltL_mono {n m : Nat} (hn : n ≤ m) : ∀ {xs : List D}, ltL n xs = true → ltL m xs = true
  | [], _ => rfl
  | d :: r, h => by
    unfold ltL at h ⊢
    rw [Bool.and_eq_true] at h
    rw [ltD_mono hn h.1, ltL_mono hn h.2]
    rfl
end
mutual
theorem frzD_lt {n : Nat} {g : Nat → Option (List D)} : ∀ {d : D}, ltD n d = true → frzD n g d = some d
  | .non, _ => rfl
  | .bl _, _ => rfl
  | .int _, _ => rfl
  | .str _, _ => rfl
  | .exc _, _ => rfl
  | .ref i, h => by
    unfold frzD
    rw [if_pos (of_decide_eq_true h)]
  | .tup xs, h => by unfold frzD; rw [frzL_lt (xs := xs) h]; rfl
  | .lst xs, h => by unfold frzD; rw [frzL_lt (xs := xs) h]; rfl
  | .scr xs, h => by unfold frzD; rw [frzL_lt (xs := xs) h]; rfl
theorem frzL_lt {n : Nat} {g : Nat → Option (List D)} : ∀ {xs : List D}, ltL n xs = true → frzL n g xs = some xs
  | [], _ => rfl
  | d :: r, h => by
    unfold ltL at h
    rw [Bool.and_eq_true] at h
    unfold frzL
    rw [frzD_lt h.1, frzL_lt h.2]
end
mutual
theorem frzD_no {n : Nat} {g : Nat → Option (List D)} (hg : ∀ i, n ≤ i → g i = none) : ∀ {d d' : D}, frzD n g d = some d' → d' = d
  | .non, _, h => by cases h; rfl
  | .bl _, _, h => by cases h; rfl
  | .int _, _, h => by cases h; rfl
  | .str _, _, h => by cases h; rfl
  | .exc _, _, h => by cases h; rfl
  | .ref i, _, h => by
    unfold frzD at h
    by_cases hi : i < n
    · rw [if_pos hi] at h; cases h; rfl
    · rw [if_neg hi, hg i (by omega)] at h; cases h
  | .tup xs, _, h => by
    unfold frzD at h
    cases q : frzL n g xs with
    | none => rw [q] at h; cases h
    | some ys => rw [q] at h; cases h; rw [frzL_no hg q]
  | .lst xs, _, h => by
    unfold frzD at h
    cases q : frzL n g xs with
    | none => rw [q] at h; cases h
    | some ys => rw [q] at h; cases h; rw [frzL_no hg q]
  | .scr xs, _, h => by
    unfold frzD at h
    cases q : frzL n g xs with
    | none => rw [q] at h; cases h
    | some ys => rw [q] at h; cases h; rw [frzL_no hg q]
theorem frzL_no {n : Nat} {g : Nat → Option (List D)} (hg : ∀ i, n ≤ i → g i = none) : ∀ {d d' : List D}, frzL n g d = some d' → d' = d
  | [], _, h => by cases h; rfl
  | x :: r, _, h => by
    unfold frzL at h
    cases q : frzD n g x with
    | none => rw [q] at h; simp at h
    | some y =>
      cases q2 : frzL n g r with
      | none => rw [q, q2] at h; simp at h
      | some ys => rw [q, q2] at h; cases h; rw [frzD_no hg q, frzL_no hg q2]
end
theorem noRefs_app {xs ys : List D} : noRefs (xs ++ ys) = (noRefs xs && noRefs ys) := by
  induction xs with
  | nil => rfl
  | cons x r ih =>
    show (noRef x && noRefs (r ++ ys)) = ((noRef x && noRefs r) && noRefs ys)
    rw [ih, Bool.and_assoc]
theorem noRefs_map {α : Type} {f : α → D} {xs : List α} (h : ∀ x ∈ xs, noRef (f x) = true) : noRefs (xs.map f) = true := by
  induction xs with
  | nil => rfl
  | cons x r ih =>
    show (noRef (f x) && noRefs (r.map f)) = true
    rw [h x List.mem_cons_self, ih fun y hy => h y (List.mem_cons_of_mem _ hy)]
    rfl
theorem ltL_app {n : Nat} {xs ys : List D} : ltL n (xs ++ ys) = (ltL n xs && ltL n ys) := by
  induction xs with
  | nil => rfl
  | cons x r ih =>
    show (ltD n x && ltL n (r ++ ys)) = ((ltD n x && ltL n r) && ltL n ys)
    rw [ih, Bool.and_assoc]
theorem ltL_map {α : Type} {n : Nat} {f : α → D} {xs : List α} (h : ∀ x ∈ xs, ltD n (f x) = true) : ltL n (xs.map f) = true := by
  induction xs with
  | nil => rfl
  | cons x r ih =>
    show (ltD n (f x) && ltL n (r.map f)) = true
    rw [h x List.mem_cons_self, ih fun y hy => h y (List.mem_cons_of_mem _ hy)]
    rfl
/-! ### freezing -/
def gd (η : Hv) : Prop := η.all (ltO η.length) = true
theorem cut_of {η η0 G : Hv} (h : η0.length = η.length) (hc : gd η → gd η0) : Cut η (η0 ++ G) := by
  refine ⟨by rw [List.length_append]; omega, fun hg => ?_⟩
  rw [List.take_append_of_le_length (by omega), List.take_of_length_le (by omega), ← h]
  exact hc hg
theorem take_of {η η0 G : Hv} (h : η0.length = η.length) : (η0 ++ G).take η.length = η0 := by
  rw [List.take_append_of_le_length (by omega), List.take_of_length_le (by omega)]
theorem frz_len {d : D} {η η1 : Hv} (h : η1.length = η.length) : frz η (.ok d η1) = .ok d η1 := by
  unfold frz
  dsimp only
  split
  · have hg : ∀ i, η.length ≤ i → frzR η.length η1 5 i = none := fun i hi => by
      unfold frzR
      rw [List.getElem?_eq_none (by omega)]
    rw [List.take_of_length_le (by omega)]
    split
    · rename_i d' q
      rw [frzD_no hg q]
    · rfl
  · rfl
theorem frz_lenE {c : Nat} {η η1 : Hv} (h : η1.length = η.length) : frz η (.exc c η1) = .exc c η1 := by
  unfold frz
  dsimp only
  rw [List.take_of_length_le (by omega), ite_self]
theorem frz_same {d : D} {η : Hv} : frz η (.ok d η) = .ok d η := frz_len rfl
theorem frz_sameE {c : Nat} {η : Hv} : frz η (.exc c η) = .exc c η := frz_lenE rfl
theorem frz_val {d : D} {η η0 G : Hv} (hd : ltD η.length d = true) (h : η0.length = η.length) (hc : gd η → gd η0) : frz η (.ok d (η0 ++ G)) = .ok d η0 := by
  unfold frz
  dsimp only
  rw [if_pos (cut_of h hc), frzD_lt hd, take_of h]
theorem frz_exc {c : Nat} {η η0 G : Hv} (h : η0.length = η.length) (hc : gd η → gd η0) : frz η (.exc c (η0 ++ G)) = .exc c η0 := by
  unfold frz
  dsimp only
  rw [if_pos (cut_of h hc), take_of h]
theorem at_len {η G : Hv} {o : O} : (η ++ o :: G)[η.length]? = some o := by
  rw [List.getElem?_append_right (Nat.le_refl _), Nat.sub_self]
  rfl
theorem set_len {η G : Hv} {o o' : O} : (η ++ o :: G).set η.length o' = η ++ o' :: G := by
  rw [List.set_append_right _ _ (Nat.le_refl _), Nat.sub_self]
  rfl
theorem frz_lst {xs : List D} {η η0 G : Hv} (hx : ltL η.length xs = true) (h : η0.length = η.length) (hc : gd η → gd η0) : frz η (.ok (.ref η.length) (η0 ++ O.lst xs :: G)) = .ok (.lst xs) η0 := by
  unfold frz
  dsimp only
  rw [if_pos (cut_of h hc), take_of h]
  have : frzD η.length (frzR η.length (η0 ++ O.lst xs :: G) 5) (.ref η.length) = some (.lst xs) := by
    unfold frzD
    rw [if_neg (Nat.lt_irrefl _)]
    unfold frzR
    rw [← h, at_len]
    dsimp only
    rw [h, frzL_lt hx]
    rfl
  rw [this]
theorem frz_new {xs : List D} {η : Hv} (hx : ltL η.length xs = true) : frz η (newL xs η) = .ok (.lst xs) η := frz_lst (G := []) hx rfl id
/-- a def's end -/
theorem fin_ret {d : D} {η η1 : Hv} {r : RS} (h : r = .ret d η1) (hl : η1.length = η.length) : frz η (finF r) = .ok d η1 := by
  rw [h]
  exact frz_len hl
theorem fin_r {d : D} {η : Hv} {r : RS} (h : r = .ret d η) : frz η (finF r) = .ok d η := fin_ret h rfl
theorem fin_x {c : Nat} {env : Ev} {η : Hv} {r : RS} (h : r = .exc c env η) : frz η (finF r) = .exc c η := by
  rw [h]
  exact frz_sameE
theorem fin_n {env : Ev} {η : Hv} {r : RS} (h : r = .nxt env η) : frz η (finF r) = .ok .non η := by
  rw [h]
  exact frz_same
theorem fin_v {d : D} {η η0 G : Hv} {r : RS} (h : r = .ret d (η0 ++ G)) (hd : ltD η.length d = true) (hl : η0.length = η.length) (hc : gd η → gd η0) : frz η (finF r) = .ok d η0 := by
  rw [h]
  exact frz_val hd hl hc
theorem fin_l {xs : List D} {η η0 G : Hv} {r : RS} (h : r = .ret (.ref η.length) (η0 ++ O.lst xs :: G)) (hx : ltL η.length xs = true) (hl : η0.length = η.length) (hc : gd η → gd η0) : frz η (finF r) = .ok (.lst xs) η0 := by
  rw [h]
  exact frz_lst hx hl hc
/-! ### walks -/
def WkP {α : Type} (it : Itv) (xs : List α) (e : α → D) : Prop := (∀ k η, nextI it k η = some (xs[k]?.map e)) ∧ ∀ η, xs.length ≤ sizeI it η
/-- what is walked is known, whatever becomes of the heap -/
def WkOk {α : Type} (i : Iex) (env : Ev) (η : Hv) (xs : List α) (e : α → D) : Prop := ∃ it, i env η = .ok it η ∧ WkP it xs e
section
variable {α : Type} {xs : List α} {e : α → D} {m : Exp} {env : Ev} {η : Hv}
theorem seq_tup {ds : List D} {η : Hv} : seqOf η (.tup ds) = some ds := rfl
theorem seq_lst {ds : List D} {η : Hv} : seqOf η (.lst ds) = some ds := rfl
theorem wkp_of {d : D} {ds : List D} (h : ∀ η, seqOf η d = some ds) (hd : ds = xs.map e) : WkP (.live d) xs e := by
  refine ⟨fun k η => ?_, fun η => ?_⟩
  · show (seqOf η d).map _ = _
    rw [h, hd, Option.map_some, List.getElem?_map]
  · show _ ≤ ((seqOf η d).map List.length).getD 0
    rw [h, hd, Option.map_some, Option.getD_some, List.length_map]
    exact Nat.le_refl _
theorem wk_tup {ds : List D} (h : m env η = .ok (.tup ds) η) (hd : ds = xs.map e) : WkOk (iVal m) env η xs e := by
  refine ⟨.live (.tup ds), ?_, wkp_of (fun _ => rfl) hd⟩
  unfold iVal
  rw [h]
  rfl
theorem wk_lst {ds : List D} (h : m env η = .ok (.lst ds) η) (hd : ds = xs.map e) : WkOk (iVal m) env η xs e := by
  refine ⟨.live (.lst ds), ?_, wkp_of (fun _ => rfl) hd⟩
  unfold iVal
  rw [h]
  rfl
theorem wk_str {s : Str} (h : m env η = .ok (.str s) η) : WkOk (iVal m) env η s.cps.toList fun c => .str ⟨#[c]⟩ := by
  refine ⟨.str s, ?_, fun k η => ?_, fun η => ?_⟩
  · unfold iVal
    rw [h]
    rfl
  · show some ((s.cps[k]?).map _) = _
    rw [Array.getElem?_toList]
  · show _ ≤ s.cps.size
    rw [Array.length_toList]
    exact Nat.le_refl _
theorem rng1_eq {i : Int} (h : m env η = .ok (.int i) η) : iRng1 m env η = if in62 i then R.ok (Itv.rng 0 i.toNat) η else .bad := by
  unfold iRng1
  rw [h]
  rfl
theorem rng2_eq {m2 : Exp} {i j : Int} (h : m env η = .ok (.int i) η) (h2 : m2 env η = .ok (.int j) η) : iRng2 m m2 env η = if in62 i && in62 j then R.ok (Itv.rng i (j - i).toNat) η else .bad := by
  unfold iRng2
  rw [h]
  dsimp only [R.bind]
  rw [h2]
theorem wkp_rng {lo : Int} {n : Nat} : WkP (.rng lo n) (List.range n) fun k : Nat => .int (lo + k) := by
  refine ⟨fun k η => ?_, fun η => ?_⟩
  · show some (if k < n then _ else _) = _
    by_cases h : k < n
    · rw [if_pos h, List.getElem?_range h]
      rfl
    · rw [if_neg h, List.getElem?_eq_none (by rw [List.length_range]; omega)]
      rfl
  · rw [List.length_range]
    exact Nat.le_refl n
theorem in62_nn {i : Int} (h : 0 ≤ i) (h2 : i < 2147483648) : in62 i = true := by
  unfold in62
  rw [Bool.and_eq_true]
  exact ⟨decide_eq_true (by omega), decide_eq_true (by omega)⟩
theorem wk_rng {n : Nat} (h : m env η = .ok (.int n) η) (hn : n < 2147483648) : WkOk (iRng1 m) env η (List.range n) fun k : Nat => .int k := by
  refine ⟨.rng 0 n, ?_, ?_⟩
  · rw [rng1_eq h, in62_nn (by omega) (by omega), if_pos rfl, Int.toNat_natCast]
  · have := wkp_rng (lo := 0) (n := n)
    simp only [Int.zero_add] at this
    exact this
theorem wk_rng2 {m2 : Exp} {a n : Nat} (h : m env η = .ok (.int a) η) (h2 : m2 env η = .ok (.int n) η) (ha : a < 2147483648) (hn : n < 2147483648) : WkOk (iRng2 m m2) env η (List.range (n - a)) fun k : Nat => .int (a + k : Int) := by
  refine ⟨.rng a (n - a), ?_, wkp_rng⟩
  rw [rng2_eq h h2, in62_nn (by omega) (by omega), in62_nn (by omega) (by omega), Bool.and_self, if_pos rfl]
  congr 2
  omega
end
theorem ite_t {α : Type} {a b : α} : (if true = true then a else b) = a := rfl
theorem ite_f {α : Type} {a b : α} : (if false = true then a else b) = b := rfl
/-! ### comprehensions -/
theorem nx_app {α : Type} {it : Itv} {xs : List α} {e : α → D} (h : WkP it xs e) {k : Nat} {η : Hv} : nextI it k η = some (xs[k]?.map e) := h.1 k η
/-- P: what was gathered, and the old part of the heap (its length stays) -/
theorem comp_run {α : Type} {g : Tgt} {t : Tst} {m : Exp} {env : Ev} {n : Nat} (c : Nat) {it : Itv} {xs : List α} {e : α → D} (P : List α → List D → Hv → Prop) (hn : ∀ done ds η k, P done ds η → nextI it k (η ++ [O.lst ds]) = some (xs[k]?.map e)) (hlen : ∀ done ds η, P done ds η → η.length = n ∧ ds.length ≤ c + done.length) (hs : c + xs.length ≤ sizeLine)
    (step : ∀ done x rest, xs = done ++ x :: rest → ∀ ds η, P done ds η → ∃ e1 b η1, g (e x) env (η ++ [O.lst ds]) = .ok e1 (η ++ [O.lst ds]) ∧ t e1 (η ++ [O.lst ds]) = .ok b (η1 ++ [O.lst ds]) ∧ (if b then ∃ d η2, m e1 (η1 ++ [O.lst ds]) = .ok d (η2 ++ [O.lst ds]) ∧ P (done ++ [x]) (ds ++ [d]) η2 else P (done ++ [x]) ds η1)) :
    ∀ (r : List α) (k fuel : Nat) (ds : List D) (η : Hv), r.length ≤ fuel → xs.drop k = r → P (xs.take k) ds η → ∃ ds' η', compN it g t m env n (fuel + 1) k (η ++ [O.lst ds]) = .ok () (η' ++ [O.lst ds']) ∧ P xs ds' η' := by
  intro r
  induction r with
  | nil =>
    intro k fuel ds η hf hk hP
    have hl : xs.length ≤ k := List.drop_eq_nil_iff.mp hk
    refine ⟨ds, η, ?_, by rwa [List.take_of_length_le hl] at hP⟩
    unfold compN
    rw [hn _ _ _ _ hP, List.getElem?_eq_none hl]
    rfl
  | cons x r ih =>
    intro k fuel ds η hf hk hP
    obtain ⟨fuel, rfl⟩ : ∃ m, fuel = m + 1 := ⟨fuel - 1, by rw [List.length_cons] at hf; omega⟩
    rw [List.length_cons] at hf
    have hx : xs[k]? = some x := by
      have := congrArg List.head? hk
      rwa [List.head?_drop] at this
    have hkl : k < xs.length := (List.getElem?_eq_some_iff.mp hx).1
    have hdr : xs.drop (k + 1) = r := by
      rw [← List.drop_drop, hk]
      rfl
    have htk : xs.take (k + 1) = xs.take k ++ [x] := by
      rw [List.take_add_one, hx]
      rfl
    obtain ⟨e1, b, η1, h1, h2, h3⟩ := step (xs.take k) x r (by rw [← hk, List.take_append_drop]) ds η hP
    have hds := (hlen _ _ _ hP).2
    rw [List.length_take] at hds
    rw [← htk] at h3
    unfold compN
    rw [hn _ _ _ _ hP, hx]
    dsimp only [Option.map_some]
    rw [h1]
    dsimp only [R.bind]
    rw [h2]
    dsimp only
    cases b with
    | true =>
      rw [if_pos rfl] at h3 ⊢
      obtain ⟨d, η2, h4, h5⟩ := h3
      rw [h4]
      dsimp only
      have l2 := (hlen _ _ _ h5).1
      have a1 : (η2 ++ [O.lst ds])[n]? = some (O.lst ds) := by rw [← l2]; exact at_len
      have a2 : (η2 ++ [O.lst ds]).set n (O.lst (ds ++ [d])) = η2 ++ [O.lst (ds ++ [d])] := by rw [← l2]; exact set_len
      rw [a1]
      dsimp only
      rw [if_pos (by omega), a2]
      exact ih (k + 1) fuel (ds ++ [d]) η2 (by omega) hdr h5
    | false =>
      rw [if_neg (by decide)] at h3 ⊢
      exact ih (k + 1) fuel ds η1 (by omega) hdr h3
theorem comp_inv {α : Type} {own : List Nat} {i : Iex} {g : Tgt} {t : Tst} {m : Exp} {env : Ev} {η : Hv} {xs : List α} {e : α → D} (P : List α → List D → Hv → Prop) (hi : WkOk i env η xs e) (h0 : P [] [] η) (hlen : ∀ done ds η1, P done ds η1 → η1.length = η.length ∧ ds.length ≤ done.length) (hs : xs.length ≤ sizeLine)
    (step : ∀ done x rest, xs = done ++ x :: rest → ∀ ds η, P done ds η → ∃ e1 b η1, g (e x) (wipeE env own) (η ++ [O.lst ds]) = .ok e1 (η ++ [O.lst ds]) ∧ t e1 (η ++ [O.lst ds]) = .ok b (η1 ++ [O.lst ds]) ∧ (if b then ∃ d η2, m e1 (η1 ++ [O.lst ds]) = .ok d (η2 ++ [O.lst ds]) ∧ P (done ++ [x]) (ds ++ [d]) η2 else P (done ++ [x]) ds η1)) :
    ∃ ds η1, xComp own i g t m env η = .ok (.ref η.length) (η1 ++ [O.lst ds]) ∧ P xs ds η1 := by
  obtain ⟨it, h1, h2⟩ := hi
  obtain ⟨ds, η1, h3, h4⟩ := comp_run 0 P (fun _ _ _ k _ => h2.1 k _) (fun d ds η h => by rw [Nat.zero_add]; exact hlen d ds η h) (by rw [Nat.zero_add]; exact hs) step xs 0 (sizeI it η) [] η (h2.2 η) rfl h0
  refine ⟨ds, η1, ?_, h4⟩
  unfold xComp
  rw [h1]
  show (noExc (compN it g t m (wipeE env own) η.length (sizeI it η + 1) 0 (η ++ [.lst []]))).bind _ = _
  rw [h3]
  rfl
/-- what is walked is known, as long as the heap grows alone -/
def WkS {α : Type} (i : Iex) (env : Ev) (η : Hv) (xs : List α) (e : α → D) : Prop := ∃ it, i env η = .ok it η ∧ (∀ k G, nextI it k (η ++ G) = some (xs[k]?.map e)) ∧ xs.length ≤ sizeI it η
theorem WkOk.s {α : Type} {i : Iex} {env : Ev} {η : Hv} {xs : List α} {e : α → D} (h : WkOk i env η xs e) : WkS i env η xs e := by
  obtain ⟨it, h1, h2⟩ := h
  exact ⟨it, h1, fun k G => h2.1 k _, h2.2 η⟩
theorem wks_ref {α : Type} {m : Exp} {env : Ev} {η : Hv} {xs : List α} {e : α → D} {p : Nat} (h : m env η = .ok (.ref p) η) (hp : η[p]? = some (.lst (xs.map e))) : WkS (iVal m) env η xs e := by
  have l0 : ∀ G, lstOf (η ++ G) (.ref p) = some (xs.map e) := fun G => by
    unfold lstOf
    dsimp only
    rw [List.getElem?_append_left (List.getElem?_eq_some_iff.mp hp).1, hp]
  have s0 : ∀ G, seqOf (η ++ G) (.ref p) = some (xs.map e) := l0
  have s1 : seqOf η (.ref p) = some (xs.map e) := by have := s0 []; rwa [List.append_nil] at this
  refine ⟨.live (.ref p), ?_, fun k G => ?_, ?_⟩
  · unfold iVal
    rw [h]
    show (match seqOf η (.ref p) with
      | some _ => R.ok (Itv.live (.ref p)) η
      | none => .bad) = _
    rw [s1]
  · show (seqOf (η ++ G) (.ref p)).map _ = _
    rw [s0, Option.map_some, List.getElem?_map]
  · show _ ≤ ((seqOf η (.ref p)).map List.length).getD 0
    rw [s1, Option.map_some, Option.getD_some, List.length_map]
    exact Nat.le_refl _
theorem comp_fs {α : Type} {own : List Nat} {i : Iex} {g : Tgt} {t : Tst} {m : Exp} {env : Ev} {η : Hv} {xs : List α} {e : α → D} (p : α → Bool) (f : α → D) (hi : WkS i env η xs e) (hs : xs.length ≤ sizeLine)
    (hb : ∀ x ∈ xs, ∀ G, ∃ e1, g (e x) (wipeE env own) (η ++ G) = .ok e1 (η ++ G) ∧ t e1 (η ++ G) = .ok (p x) (η ++ G) ∧ (p x = true → m e1 (η ++ G) = .ok (f x) (η ++ G))) : xComp own i g t m env η = .ok (.ref η.length) (η ++ [O.lst ((xs.filter p).map f)]) := by
  obtain ⟨it, k1, k2, k3⟩ := hi
  obtain ⟨ds, η1, h1, h2, h3⟩ := comp_run (g := g) (t := t) (m := m) (env := wipeE env own) (n := η.length) 0 (fun done ds η1 => η1 = η ∧ ds = (done.filter p).map f) (fun done ds η1 k ⟨z1, z2⟩ => by rw [z1]; exact k2 k _) (fun done ds η1 ⟨h1, h2⟩ => ⟨by rw [h1], by rw [h2, List.length_map, Nat.zero_add]; exact List.length_filter_le _ _⟩) (by rw [Nat.zero_add]; exact hs) (fun done x rest hx ds η1 ⟨h1, h2⟩ => by
    subst h1 h2
    obtain ⟨e1, b1, b2, b3⟩ := hb x (by rw [hx]; simp) [O.lst ((done.filter p).map f)]
    refine ⟨e1, p x, η1, b1, b2, ?_⟩
    cases q : p x with
    | true =>
      rw [if_pos rfl]
      refine ⟨f x, η1, b3 q, rfl, ?_⟩
      rw [List.filter_append, List.map_append, List.filter_cons_of_pos q]
      rfl
    | false =>
      rw [if_neg (by decide)]
      refine ⟨rfl, ?_⟩
      rw [List.filter_append, List.filter_cons_of_neg (by rw [q]; decide), List.filter_nil, List.append_nil]) xs 0 (sizeI it η) [] η k3 rfl ⟨rfl, rfl⟩
  unfold xComp
  rw [k1]
  show (noExc (compN it g t m (wipeE env own) η.length (sizeI it η + 1) 0 (η ++ [.lst []]))).bind _ = _
  rw [h1, h2, h3]
  rfl
/-- a comprehension that leaves the heap as it was -/
theorem comp_f {α : Type} {own : List Nat} {i : Iex} {g : Tgt} {t : Tst} {m : Exp} {env : Ev} {η : Hv} {xs : List α} {e : α → D} (p : α → Bool) (f : α → D) (hi : WkOk i env η xs e) (hs : xs.length ≤ sizeLine)
    (hb : ∀ x ∈ xs, ∀ G, ∃ e1, g (e x) (wipeE env own) (η ++ G) = .ok e1 (η ++ G) ∧ t e1 (η ++ G) = .ok (p x) (η ++ G) ∧ (p x = true → m e1 (η ++ G) = .ok (f x) (η ++ G))) : xComp own i g t m env η = .ok (.ref η.length) (η ++ [O.lst ((xs.filter p).map f)]) := comp_fs p f hi.s hs hb
theorem comp_vs {α : Type} {own : List Nat} {i : Iex} {g : Tgt} {t : Tst} {m : Exp} {env : Ev} {η : Hv} {xs : List α} {e : α → D} (p : α → Bool) (f : α → D) (hi : WkS i env η xs e) (hs : xs.length ≤ sizeLine)
    (hb : ∀ x ∈ xs, ∀ G, ∃ e1, g (e x) (wipeE env own) (η ++ G) = .ok e1 (η ++ G) ∧ t e1 (η ++ G) = .ok (p x) (η ++ G) ∧ (p x = true → m e1 (η ++ G) = .ok (f x) (η ++ G))) (hp : ∀ x ∈ xs, ltD η.length (f x) = true) : frz η (xComp own i g t m env η) = .ok (.lst ((xs.filter p).map f)) η := by
  rw [comp_fs p f hi hs hb]
  exact frz_lst (ltL_map fun x hx => hp x (List.mem_filter.mp hx).1) rfl id
/-- the same, its list a value -/
theorem comp_v {α : Type} {own : List Nat} {i : Iex} {g : Tgt} {t : Tst} {m : Exp} {env : Ev} {η : Hv} {xs : List α} {e : α → D} (p : α → Bool) (f : α → D) (hi : WkOk i env η xs e) (hs : xs.length ≤ sizeLine)
    (hb : ∀ x ∈ xs, ∀ G, ∃ e1, g (e x) (wipeE env own) (η ++ G) = .ok e1 (η ++ G) ∧ t e1 (η ++ G) = .ok (p x) (η ++ G) ∧ (p x = true → m e1 (η ++ G) = .ok (f x) (η ++ G))) (hp : ∀ x ∈ xs, ltD η.length (f x) = true) : xFrz (xComp own i g t m) env η = .ok (.lst ((xs.filter p).map f)) η := by
  unfold xFrz
  rw [comp_f p f hi hs hb]
  exact frz_lst (ltL_map fun x hx => hp x (List.mem_filter.mp hx).1) rfl id
theorem comp_m {α : Type} {own : List Nat} {i : Iex} {g : Tgt} {m : Exp} {env : Ev} {η : Hv} {xs : List α} {e : α → D} (f : α → D) (hi : WkOk i env η xs e) (hs : xs.length ≤ sizeLine)
    (hb : ∀ x ∈ xs, ∀ G, ∃ e1, g (e x) (wipeE env own) (η ++ G) = .ok e1 (η ++ G) ∧ m e1 (η ++ G) = .ok (f x) (η ++ G)) (hp : ∀ x ∈ xs, ltD η.length (f x) = true) : xFrz (xComp own i g tYesB m) env η = .ok (.lst (xs.map f)) η := by
  have := comp_v (own := own) (g := g) (t := tYesB) (m := m) (fun _ => true) f hi hs (fun x hx G => by
    obtain ⟨e1, h1, h2⟩ := hb x hx G
    exact ⟨e1, h1, rfl, fun _ => h2⟩) hp
  rwa [List.filter_eq_self.mpr fun _ _ => rfl] at this
/-- two fors, that leave the heap as it was -/
theorem comp2_f {α β : Type} {own own1 : List Nat} {i i1 : Iex} {g g1 : Tgt} {m : Exp} {env : Ev} {η : Hv} {xs : List α} {ys : α → List β} {e : α → D} {e1 : β → D} (f : β → D) (en : α → Ev) (hi : WkOk i env η xs e) (hs : (xs.flatMap ys).length ≤ sizeLine)
    (hg : ∀ x ∈ xs, ∀ G, g (e x) (wipeE env own) (η ++ G) = .ok (en x) (η ++ G)) (hi1 : ∀ x ∈ xs, ∀ G, WkOk i1 (en x) (η ++ G) (ys x) e1)
    (hb : ∀ x ∈ xs, ∀ y ∈ ys x, ∀ G, ∃ e2, g1 (e1 y) (wipeE (en x) own1) (η ++ G) = .ok e2 (η ++ G) ∧ m e2 (η ++ G) = .ok (f y) (η ++ G)) : xComp2 own own1 i g tYesB i1 g1 tYesB m env η = .ok (.ref η.length) (η ++ [O.lst ((xs.flatMap ys).map f)]) := by
  obtain ⟨it, h1, h2⟩ := hi
  have main : ∀ (r : List α) (k fuel : Nat) (acc : List D), r.length ≤ fuel → xs.drop k = r → acc = ((xs.take k).flatMap ys).map f → compN2 it g tYesB i1 g1 tYesB m (wipeE env own) own1 η.length (fuel + 1) k (η ++ [O.lst acc]) = .ok () (η ++ [O.lst ((xs.flatMap ys).map f)]) := by
    intro r
    induction r with
    | nil =>
      intro k fuel acc hf hk ha
      have hlen : xs.length ≤ k := List.drop_eq_nil_iff.mp hk
      unfold compN2
      rw [nx_app h2, List.getElem?_eq_none hlen, ha, List.take_of_length_le hlen]
      rfl
    | cons x r ih =>
      intro k fuel acc hf hk ha
      obtain ⟨fuel, rfl⟩ : ∃ m, fuel = m + 1 := ⟨fuel - 1, by rw [List.length_cons] at hf; omega⟩
      rw [List.length_cons] at hf
      have hx : xs[k]? = some x := by
        have := congrArg List.head? hk
        rwa [List.head?_drop] at this
      have hmem : x ∈ xs := List.mem_of_getElem? hx
      have hdr : xs.drop (k + 1) = r := by
        rw [← List.drop_drop, hk]
        rfl
      have htk : xs.take (k + 1) = xs.take k ++ [x] := by
        rw [List.take_add_one, hx]
        rfl
      have hsz : acc.length + (ys x).length ≤ sizeLine := by
        have e : xs = xs.take k ++ x :: r := by rw [← hk, List.take_append_drop]
        have := congrArg (fun l => (l.flatMap ys).length) e
        simp only [List.flatMap_append, List.flatMap_cons, List.length_append] at this
        rw [ha, List.length_map]
        omega
      obtain ⟨it1, k1, k2⟩ := hi1 x hmem [O.lst acc]
      obtain ⟨ds, η1, b1, b2, b3⟩ := comp_run (g := g1) (t := tYesB) (m := m) (env := wipeE (en x) own1) (n := η.length) acc.length (fun done ds η1 => η1 = η ∧ ds = acc ++ done.map f) (fun _ _ _ k _ => k2.1 k _) (fun done ds η1 ⟨z1, z2⟩ => ⟨by rw [z1], by rw [z2, List.length_append, List.length_map]; exact Nat.le_refl _⟩) hsz (fun done y rest hy ds η1 ⟨z1, z2⟩ => by
        subst z1 z2
        obtain ⟨e2, c1, c2⟩ := hb x hmem y (by rw [hy]; simp) [O.lst (acc ++ done.map f)]
        exact ⟨e2, true, η1, c1, rfl, by rw [if_pos rfl]; exact ⟨f y, η1, c2, rfl, by rw [List.map_append, List.append_assoc]; rfl⟩⟩) (ys x) 0 (sizeI it1 (η ++ [O.lst acc])) acc η (k2.2 _) rfl ⟨rfl, by simp⟩
      subst b2 b3
      unfold compN2
      rw [nx_app h2, hx]
      dsimp only [Option.map_some]
      rw [hg x hmem]
      dsimp only [R.bind]
      rw [show tYesB (en x) (η1 ++ [O.lst acc]) = .ok true (η1 ++ [O.lst acc]) from rfl]
      dsimp only
      rw [if_pos rfl, k1]
      dsimp only
      rw [b1]
      dsimp only
      exact ih (k + 1) fuel _ (by omega) hdr (by rw [htk, List.flatMap_append, List.map_append, ha]; simp)
  unfold xComp2
  rw [h1]
  show (noExc (compN2 it g tYesB i1 g1 tYesB m (wipeE env own) own1 η.length (sizeI it η + 1) 0 (η ++ [.lst []]))).bind _ = _
  rw [main xs 0 (sizeI it η) [] (h2.2 η) rfl (by simp)]
  rfl
/-! ### loops -/
def stepS (g : Tgt) (s : Stm) (d : D) : Stm := fun env η => match g d env η with
  | .ok e1 η1 => s e1 η1
  | _ => .bad
theorem loop_gen {α : Type} {it : Itv} {g : Tgt} {s : Stm} {xs : List α} {e : α → D} (P : List α → Ev → Hv → Prop) (Post : RS → Prop) (hit : WkP it xs e)
    (step : ∀ done x rest, xs = done ++ x :: rest → ∀ env η, P done env η → (∃ env' η', (stepS g s (e x) env η = .nxt env' η' ∨ stepS g s (e x) env η = .cnt env' η') ∧ P (done ++ [x]) env' η') ∨ (∃ env' η', stepS g s (e x) env η = .brk env' η' ∧ Post (.nxt env' η')) ∨ (∃ d η', stepS g s (e x) env η = .ret d η' ∧ Post (.ret d η')) ∨ ∃ c env' η', stepS g s (e x) env η = .exc c env' η' ∧ Post (.exc c env' η'))
    (hend : ∀ env η, P xs env η → Post (.nxt env η)) : ∀ (r : List α) (k fuel : Nat) (env : Ev) (η : Hv), r.length ≤ fuel → xs.drop k = r → P (xs.take k) env η → Post (loopN it g s (fuel + 1) k env η) := by
  intro r
  induction r with
  | nil =>
    intro k fuel env η hf hk hP
    have hlen : xs.length ≤ k := List.drop_eq_nil_iff.mp hk
    unfold loopN
    rw [nx_app hit, List.getElem?_eq_none hlen]
    exact hend _ _ (by rwa [List.take_of_length_le hlen] at hP)
  | cons x r ih =>
    intro k fuel env η hf hk hP
    obtain ⟨fuel, rfl⟩ : ∃ m, fuel = m + 1 := ⟨fuel - 1, by rw [List.length_cons] at hf; omega⟩
    rw [List.length_cons] at hf
    have hx : xs[k]? = some x := by
      have := congrArg List.head? hk
      rwa [List.head?_drop] at this
    have hdr : xs.drop (k + 1) = r := by
      rw [← List.drop_drop, hk]
      rfl
    have htk : xs.take (k + 1) = xs.take k ++ [x] := by
      rw [List.take_add_one, hx]
      rfl
    have st := step (xs.take k) x r (by rw [← hk, List.take_append_drop]) env η hP
    rw [← htk] at st
    unfold loopN
    rw [nx_app hit, hx]
    unfold stepS at st
    dsimp only [Option.map_some]
    cases q : g (e x) env η with
    | ok e1 η1 =>
      rw [q] at st
      dsimp only at st ⊢
      rcases st with ⟨env', η', h1, h2⟩ | ⟨env', η', h1, h2⟩ | ⟨d, η', h1, h2⟩ | ⟨c, env', η', h1, h2⟩
      · rcases h1 with h1 | h1 <;> (rw [h1]; exact ih (k + 1) fuel env' η' (by omega) hdr h2)
      · rw [h1]; exact h2
      · rw [h1]; exact h2
      · rw [h1]; exact h2
    | exc c η1 => rw [q] at st; rcases st with ⟨_, _, h | h, _⟩ | ⟨_, _, h, _⟩ | ⟨_, _, h, _⟩ | ⟨_, _, _, h, _⟩ <;> cases h
    | bad => rw [q] at st; rcases st with ⟨_, _, h | h, _⟩ | ⟨_, _, h, _⟩ | ⟨_, _, h, _⟩ | ⟨_, _, _, h, _⟩ <;> cases h
theorem for_gen {α : Type} {i : Iex} {g : Tgt} {s : Stm} {xs : List α} {e : α → D} {env : Ev} {η : Hv} (P : List α → Ev → Hv → Prop) (Post : RS → Prop) (hi : WkOk i env η xs e) (h0 : P [] env η)
    (step : ∀ done x rest, xs = done ++ x :: rest → ∀ env η, P done env η → (∃ env' η', (stepS g s (e x) env η = .nxt env' η' ∨ stepS g s (e x) env η = .cnt env' η') ∧ P (done ++ [x]) env' η') ∨ (∃ env' η', stepS g s (e x) env η = .brk env' η' ∧ Post (.nxt env' η')) ∨ (∃ d η', stepS g s (e x) env η = .ret d η' ∧ Post (.ret d η')) ∨ ∃ c env' η', stepS g s (e x) env η = .exc c env' η' ∧ Post (.exc c env' η'))
    (hend : ∀ env η, P xs env η → Post (.nxt env η)) : Post (sFor i g s env η) := by
  obtain ⟨it, h1, h2⟩ := hi
  unfold sFor
  rw [h1]
  exact loop_gen P Post h2 step hend xs 0 (sizeI it η) env η (h2.2 η) rfl h0
theorem for_ok {α : Type} {i : Iex} {g : Tgt} {s : Stm} {xs : List α} {e : α → D} {env : Ev} {η : Hv} (P : List α → Ev → Hv → Prop) (hi : WkOk i env η xs e) (h0 : P [] env η)
    (step : ∀ done x rest, xs = done ++ x :: rest → ∀ env η, P done env η → ∃ env' η', stepS g s (e x) env η = .nxt env' η' ∧ P (done ++ [x]) env' η') : ∃ env' η', sFor i g s env η = .nxt env' η' ∧ P xs env' η' :=
  for_gen P (fun r => ∃ env' η', r = .nxt env' η' ∧ P xs env' η') hi h0 (fun done x rest hx env η hP => by
    obtain ⟨env', η', h1, h2⟩ := step done x rest hx env η hP
    exact .inl ⟨env', η', .inl h1, h2⟩) fun env η hP => ⟨env, η, rfl, hP⟩
end En
end

section
set_option maxRecDepth 100000
set_option maxHeartbeats 4000000
/-! P1: running the evaluator's words by simp, the outermost first. -/
noncomputable section
namespace En
open PySem PySem.Spec PyProof.Rows L2
/-! ### what goes on with an outcome -/
def sqK (r : RS) (t : Stm) : RS := match r with
  | .nxt e η => t e η
  | r => r
def agK (r : R Ev) : RS := match r with
  | .ok e η => .nxt e η
  | _ => .bad
def bK (o : Option Bool) (k : Bool → R D) : R D := match o with
  | some b => k b
  | none => .bad
def tK (o : Option Bool) (k : Bool → R Bool) : R Bool := match o with
  | some b => k b
  | none => .bad
def ifK {α : Type} (b : Bool) (x y : α) : α := match b with
  | true => x
  | false => y
/-- a sign beside what is not to be walked into: simp keeps an argument as it is on which a later argument's type depends -/
structure Lk {α : Type} (a : α) : Type
def lkBind {α β : Type} (r : R α) (k : α → Hv → R β) (_ : Lk k) : R β := r.bind k
def lkOfE (r : R D) (env : Ev) (k : D → Hv → RS) (_ : Lk env) (_ : Lk k) : RS := RS.ofE r env k
def lkOfB (r : R Bool) (env : Ev) (k : Bool → Hv → RS) (_ : Lk env) (_ : Lk k) : RS := RS.ofB r env k
def lkSq (r : RS) (t : Stm) (_ : Lk t) : RS := sqK r t
def lkBo (o : Option Bool) (k : Bool → R D) (_ : Lk k) : R D := bK o k
def lkTo (o : Option Bool) (k : Bool → R Bool) (_ : Lk k) : R Bool := tK o k
def lkIf {α : Type} (b : Bool) (x y : α) (_ : Lk x) (_ : Lk y) : α := ifK b x y
theorem bind_l {α β : Type} {r : R α} {k : α → Hv → R β} : r.bind k = lkBind r k ⟨⟩ := rfl
theorem ofE_l {r : R D} {env : Ev} {k : D → Hv → RS} : RS.ofE r env k = lkOfE r env k ⟨⟩ ⟨⟩ := rfl
theorem ofB_l {r : R Bool} {env : Ev} {k : Bool → Hv → RS} : RS.ofB r env k = lkOfB r env k ⟨⟩ ⟨⟩ := rfl
theorem sq_l {r : RS} {t : Stm} : sqK r t = lkSq r t ⟨⟩ := rfl
theorem b_l {o : Option Bool} {k : Bool → R D} : bK o k = lkBo o k ⟨⟩ := rfl
theorem t_l {o : Option Bool} {k : Bool → R Bool} : tK o k = lkTo o k ⟨⟩ := rfl
theorem if_l {α : Type} {b : Bool} {x y : α} : ifK b x y = lkIf b x y ⟨⟩ ⟨⟩ := rfl
section
variable {m n o : Exp} {t u : Tst} {s s' : Stm} {l : Lst} {g : Tgt} {gs : Tgts} {env e : Ev} {η : Hv} {d : D} {c : Nat} {G : Gst}
theorem bind_ok {α β : Type} {a : α} {η : Hv} {k : α → Hv → R β} {z : Lk k} : lkBind (R.ok a η) k z = k a η := rfl
theorem bind_exc {α β : Type} {c : Nat} {η : Hv} {k : α → Hv → R β} {z : Lk k} : lkBind (R.exc c η : R α) k z = .exc c η := rfl
theorem ofE_ok {k : D → Hv → RS} {z : Lk env} {y : Lk k} : lkOfE (.ok d η) env k z y = k d η := rfl
theorem ofB_ok {b : Bool} {k : Bool → Hv → RS} {z : Lk env} {y : Lk k} : lkOfB (.ok b η) env k z y = k b η := rfl
theorem ofE_exc {k : D → Hv → RS} {z : Lk env} {y : Lk k} : lkOfE (.exc c η) env k z y = .exc c env η := rfl
theorem ofB_exc {k : Bool → Hv → RS} {z : Lk env} {y : Lk k} : lkOfB (.exc c η) env k z y = .exc c env η := rfl
theorem sq_nxt {t : Stm} {z : Lk t} : lkSq (.nxt e η) t z = t e η := rfl
theorem sq_ret {t : Stm} {z : Lk t} : lkSq (.ret d η) t z = .ret d η := rfl
theorem sq_exc {t : Stm} {z : Lk t} : lkSq (.exc c e η) t z = .exc c e η := rfl
theorem sq_brk {t : Stm} {z : Lk t} : lkSq (.brk e η) t z = .brk e η := rfl
theorem sq_cnt {t : Stm} {z : Lk t} : lkSq (.cnt e η) t z = .cnt e η := rfl
theorem ag_ok : agK (.ok e η) = .nxt e η := rfl
theorem bk_some {b : Bool} {k : Bool → R D} {z : Lk k} : lkBo (some b) k z = k b := rfl
theorem tk_some {b : Bool} {k : Bool → R Bool} {z : Lk k} : lkTo (some b) k z = k b := rfl
theorem ifk_t {α : Type} {x y : α} {u : Lk x} {v : Lk y} : lkIf true x y u v = x := rfl
theorem ifk_f {α : Type} {x y : α} {u : Lk x} {v : Lk y} : lkIf false x y u v = y := rfl
theorem sSeq_ {t : Stm} : sSeq s t env η = sqK (s env η) t := rfl
theorem sPass_ : sPass env η = .nxt env η := rfl
theorem sRet_ : sRet m env η = RS.ofE (m env η) env fun d η1 => .ret d η1 := rfl
theorem sExp_ : sExp m env η = RS.ofE (m env η) env fun _ η1 => .nxt env η1 := rfl
theorem sRaise_ : sRaise c env η = .exc c env η := rfl
theorem sIf_ : sIf t s s' env η = RS.ofB (t env η) env fun b η1 => ifK b (s env η1) (s' env η1) := by
  unfold sIf
  congr 1
  funext b η1
  cases b <;> rfl
theorem sAsg_ : sAsg m g env η = RS.ofE (m env η) env fun d η1 => agK (g d env η1) := rfl
theorem sPar_ : sPar l gs env η = (match l env η with
  | .ok ds η1 => agK (gs ds env η1)
  | .exc c η1 => .exc c env η1
  | .bad => .bad) := rfl
theorem x1_ {f : D → Hv → R D} : x1 f m env η = (m env η).bind f := rfl
theorem x2_ {f : D → D → Hv → R D} : x2 f m n env η = (m env η).bind fun d η1 => (n env η1).bind fun e η2 => f d e η2 := rfl
theorem xC_ : xC d env η = .ok d η := rfl
theorem ifk_if {α : Type} {p : Prop} [Decidable p] {x y : α} : (if p then x else y) = ifK (decide p) x y := by
  by_cases h : p
  · rw [if_pos h, decide_eq_true h]
    rfl
  · rw [if_neg h, decide_eq_false h]
    rfl
theorem ifk_ift {α : Type} {b : Bool} {x y : α} : (if b = true then x else y) = ifK b x y := by cases b <;> rfl
theorem xTup_ : xTup l env η = (l env η).bind fun ds η1 => ifK (decide (ds.length ≤ sizeLine)) (.ok (.tup ds) η1) .bad := by
  unfold xTup
  simp only [ifk_if]
theorem xLst_ : xLst l env η = (l env η).bind fun ds η1 => ifK (decide (ds.length ≤ sizeLine)) (newL ds η1) .bad := by
  unfold xLst
  simp only [ifk_if]
theorem sz_ok {k : Nat} (h : k ≤ 1000) : decide (k ≤ sizeLine) = true := decide_eq_true (by rw [sizeLine_eq]; omega)
theorem xNil_ : xNil env η = .ok [] η := rfl
theorem xCons_ : xCons m l env η = (m env η).bind fun d η1 => (l env η1).bind fun ds η2 => .ok (d :: ds) η2 := rfl
theorem xFn_ {f : List D → Hv → R D} : xFn f l env η = (l env η).bind f := rfl
theorem xCall_ {f : Nat} {ds : List D} : xCall G f ds l env η = (l env η).bind fun vs η1 => G.F f (vs ++ ds) η1 := rfl
theorem xTru_ : xTru m env η = (m env η).bind fun d η1 => tK (truB η1 d) fun b => .ok b η1 := rfl
theorem xNotT_ : xNotT t env η = (t env η).bind fun b η1 => .ok (!b) η1 := rfl
theorem xAndT_ : xAndT t u env η = (t env η).bind fun b η1 => ifK b (u env η1) (.ok false η1) := by
  unfold xAndT
  congr 1
  funext b η1
  cases b <;> rfl
theorem xOrT_ : xOrT t u env η = (t env η).bind fun b η1 => ifK b (.ok true η1) (u env η1) := by
  unfold xOrT
  congr 1
  funext b η1
  cases b <;> rfl
theorem xIf_ : xIf t m n env η = (t env η).bind fun b η1 => ifK b (m env η1) (n env η1) := by
  unfold xIf
  congr 1
  funext b η1
  cases b <;> rfl
theorem xNot_ : xNot m env η = (m env η).bind fun d η1 => bK (truB η1 d) fun b => .ok (.bl !b) η1 := rfl
theorem xAnd_ : xAnd m n env η = (m env η).bind fun d η1 => bK (truB η1 d) fun b => ifK b (n env η1) (.ok d η1) := by
  unfold xAnd
  congr 1
  funext d η1
  cases truB η1 d with
  | none => rfl
  | some b => cases b <;> rfl
theorem xOr_ : xOr m n env η = (m env η).bind fun d η1 => bK (truB η1 d) fun b => ifK b (.ok d η1) (n env η1) := by
  unfold xOr
  congr 1
  funext d η1
  cases truB η1 d with
  | none => rfl
  | some b => cases b <;> rfl
def blK (d : D) (η : Hv) : R Bool := match d with
  | .bl b => .ok b η
  | _ => .bad
theorem blk_bl {b : Bool} : blK (.bl b) η = .ok b η := rfl
theorem xBool_ : xBool m env η = (m env η).bind blK := rfl
theorem xIsT_ {T : String} : xIsT T m env η = (m env η).bind fun d η1 => bK ((tyName η1 d).bind fun n => kitB n T) fun b => .ok (.bl b) η1 := rfl
def chK (c : D) (η : Hv) (k : R D) : R D := match c with
  | .bl true => k
  | .bl false => .ok (.bl false) η
  | _ => .bad
def lkCh (c : D) (η : Hv) (k : R D) (_ : Lk k) : R D := chK c η k
theorem ch_l {c : D} {k : R D} : chK c η k = lkCh c η k ⟨⟩ := rfl
theorem chk_t {k : R D} {z : Lk k} : lkCh (.bl true) η k z = k := rfl
theorem chk_f {k : R D} {z : Lk k} : lkCh (.bl false) η k z = .ok (.bl false) η := rfl
theorem xChain_ {f f' : D → D → Hv → R D} : xChain f f' m n o env η = (m env η).bind fun x η1 => (n env η1).bind fun y η2 => (f x y η2).bind fun c η3 => chK c η3 ((o env η3).bind fun z η4 => f' y z η4) := by
  rfl
def kdK (o : Option (List (Key × D))) (e : D) (η : Hv) (k : R D) : R D := match o with
  | some kvs => (match (keyD e).bind (getK kvs) with
    | some x => .ok x η
    | none => .bad)
  | none => k
theorem kdk_none {e : D} {k : R D} : kdK none e η k = k := rfl
theorem xIx_ : xIx m n env η = (m env η).bind fun d η1 => (n env η1).bind fun e η2 => kdK (dctOf η2 d) e η2 (sixD d e η2) := rfl
theorem xSlc_ {lo hi : Opt} : xSlc m lo hi env η = (m env η).bind fun d η1 => (lo env η1).bind fun i η2 => (hi env η2).bind fun j η3 => slcD d i j η3 := rfl
def ptK (d : D) (η : Hv) : R (Option Int) := match d with
  | .int i => .ok (some i) η
  | _ => .bad
theorem ptk_int {i : Int} : ptK (.int i) η = .ok (some i) η := rfl
theorem xPart_ : xPart m env η = (m env η).bind ptK := rfl
theorem xNoPart_ : xNoPart env η = .ok none η := rfl
def bmK (o : Option String) (k : String → R D) : R D := match o with
  | some t => k t
  | none => .bad
def lkBm (o : Option String) (k : String → R D) (_ : Lk k) : R D := bmK o k
theorem bm_l {o : Option String} {k : String → R D} : bmK o k = lkBm o k ⟨⟩ := rfl
theorem bmk_some {t : String} {k : String → R D} {z : Lk k} : lkBm (some t) k z = k t := rfl
theorem xBm_ {mm : Str} : xBm G mm o l env η = (o env η).bind fun d η1 => bmK (kindB η1 d) fun t => ifK (G.mok t mm) ((l env η1).bind fun vs η2 => G.M t mm d vs η2) .bad := by
  unfold xBm
  simp only [ifk_ift]
  rfl
theorem gSlot_ {i : Nat} : gSlot i d env η = .ok (env.set i (some d)) η := rfl
theorem gTupl_ {n : Nat} {xs : List D} (h : xs.length = n) : gTupl n gs (.tup xs) env η = gs xs env η := by
  show (if xs.length = n then gs xs env η else .bad) = _
  rw [if_pos h]
theorem gsNil_ : gsNil [] env η = .ok env η := rfl
theorem gsCons_ {r : List D} : gsCons g gs (d :: r) env η = (g d env η).bind fun e1 η1 => gs r e1 η1 := rfl
def jkK (acc : Str) (d : D) (k : Str → R D) : R D := match d with
  | .str y => ifK (decide ((acc ++ y).length ≤ sizeLine)) (k (acc ++ y)) .bad
  | _ => .bad
def lkJk (acc : Str) (d : D) (k : Str → R D) (_ : Lk k) : R D := jkK acc d k
theorem jk_l {acc : Str} {k : Str → R D} : jkK acc d k = lkJk acc d k ⟨⟩ := rfl
theorem jk_str {acc y : Str} {k : Str → R D} {z : Lk k} : lkJk acc (.str y) k z = ifK (decide ((acc ++ y).length ≤ sizeLine)) (k (acc ++ y)) .bad := rfl
theorem xJoin_ {ms : List Exp} : xJoin ms env η = joinP ms Str.empty env η := rfl
theorem jp_nil {acc : Str} : joinP [] acc env η = .ok (.str acc) η := rfl
theorem jp_cons {r : List Exp} {acc : Str} : joinP (m :: r) acc env η = (m env η).bind fun d η1 => jkK acc d fun z => joinP r z env η1 := by
  show (m env η).bind (fun d η1 => match d with
    | .str y => if (acc ++ y).length ≤ sizeLine then joinP r (acc ++ y) env η1 else .bad
    | _ => .bad) = _
  congr 1
  funext d η1
  cases d <;> first | rfl | (show (if _ then _ else _) = _; rw [ifk_if]; rfl)
def vrK (o : Option (Option D)) (η : Hv) : R D := match o with
  | some (some d) => .ok d η
  | _ => .bad
theorem vrk_some : vrK (some (some d)) η = .ok d η := rfl
theorem xVar_ {i : Nat} : xVar i env η = vrK env[i]? η := rfl
end
def chU (b : Bool) (η : Hv) (k : R D) : R D := chK (.bl b) η k
def ifU {α : Type} (b : Bool) (x y : α) : α := ifK b x y
theorem ch_u {b : Bool} {η : Hv} {k : R D} {z : Lk k} : lkCh (.bl b) η k z = chU b η k := rfl
theorem if_u {α : Type} {b : Bool} {x y : α} {u : Lk x} {v : Lk y} : lkIf b x y u v = ifU b x y := rfl
/-! ### what is frozen -/
theorem xFrz_ {m : Exp} {env : Ev} {η : Hv} : xFrz m env η = frz η (m env η) := rfl
theorem frz_newN {xs : List D} {η : Hv} (h : noRefs xs = true) : frz η (newL xs η) = .ok (.lst xs) η := frz_new (ltL_of h)
theorem nr_nil : noRefs [] = true := rfl
theorem nr_cons {d : D} {r : List D} : noRefs (d :: r) = (noRef d && noRefs r) := rfl
theorem nr_int {i : Int} : noRef (.int i) = true := rfl
theorem nr_str {s : Str} : noRef (.str s) = true := rfl
theorem nr_bl {b : Bool} : noRef (.bl b) = true := rfl
theorem nr_non : noRef .non = true := rfl
theorem nr_tup {xs : List D} : noRef (.tup xs) = noRefs xs := rfl
theorem nr_lst {xs : List D} : noRef (.lst xs) = noRefs xs := rfl
theorem tyes {env : Ev} {η : Hv} : tYesB env η = .ok true η := rfl
theorem sRetN_ {env : Ev} {η : Hv} : sRetN env η = .ret .non η := rfl
theorem sBrk_ {env : Ev} {η : Hv} : sBrk env η = .brk env η := rfl
theorem sCnt_ {env : Ev} {η : Hv} : sCnt env η = .cnt env η := rfl
/-! ### stars, places -/
theorem gStarF_t {g h : Tgt} {x : D} {r : List D} {env : Ev} {η : Hv} : gStarF g h (.tup (x :: r)) env η = ifK (decide (r.length ≤ 16000)) ((g x env η).bind fun e1 η1 => h (.lst r) e1 η1) .bad := by
  rw [← ifk_if]
  rfl
theorem gStarF_l {g h : Tgt} {x : D} {r : List D} {env : Ev} {η : Hv} : gStarF g h (.lst (x :: r)) env η = ifK (decide (r.length ≤ 16000)) ((g x env η).bind fun e1 η1 => h (.lst r) e1 η1) .bad := by
  rw [← ifk_if]
  rfl
theorem gTupl_c {n : Nat} {gs : Tgts} {xs : List D} {env : Ev} {η : Hv} : gTupl n gs (.tup xs) env η = ifK (decide (xs.length = n)) (gs xs env η) .bad := by
  rw [← ifk_if]
  rfl
theorem noExc_ok {α : Type} {a : α} {η : Hv} : noExc (.ok a η) = .ok a η := rfl
theorem gIx_ {m n : Exp} {d : D} {env : Ev} {η : Hv} : gIx m n d env η = (noExc (m env η)).bind fun o η1 => (noExc (n env η1)).bind fun i η2 => (setItemD o i d η2).bind fun _ η3 => .ok env η3 := rfl
def prK (r : R (List D)) (gs : Tgts) (env : Ev) : RS := match r with
  | .ok ds η1 => agK (gs ds env η1)
  | .exc c η1 => .exc c env η1
  | .bad => .bad
def lkPr (r : R (List D)) (gs : Tgts) (env : Ev) (_ : Lk gs) (_ : Lk env) : RS := prK r gs env
theorem prk_ok {ds : List D} {gs : Tgts} {env : Ev} {η : Hv} {z : Lk gs} {y : Lk env} : lkPr (.ok ds η) gs env z y = agK (gs ds env η) := rfl
theorem prk_exc {c : Nat} {gs : Tgts} {env : Ev} {η : Hv} {z : Lk gs} {y : Lk env} : lkPr (.exc c η) gs env z y = .exc c env η := rfl
theorem sPar_k {l : Lst} {gs : Tgts} {env : Ev} {η : Hv} : sPar l gs env η = lkPr (l env η) gs env ⟨⟩ ⟨⟩ := rfl
def saidK (r : R D) (w : Nat → Option Str) : R D := match r with
  | .ok d η1 => reprF [d] η1
  | .exc c η1 => (match w c with
    | some z => .ok (.str z) η1
    | none => .bad)
  | .bad => .bad
theorem xSaid_ {m : Exp} {w : Nat → Option Str} {env : Ev} {η : Hv} : xSaid m w env η = saidK (m env η) w := rfl
theorem said_ok {d : D} {w : Nat → Option Str} {η : Hv} : saidK (.ok d η) w = reprF [d] η := rfl
theorem said_exc {c : Nat} {z : Str} {w : Nat → Option Str} {η : Hv} (h : w c = some z) : saidK (.exc c η) w = .ok (.str z) η := by
  show (match w c with
    | some z => R.ok (D.str z) η
    | none => .bad) = _
  rw [h]
/-! ### small values -/
theorem le_int {i j : Int} {η : Hv} : cmpF .LtE (.int i) (.int j) η = .ok (.bl (decide (i ≤ j))) η := rfl
theorem lt_int {i j : Int} {η : Hv} : cmpF .Lt (.int i) (.int j) η = .ok (.bl (decide (i < j))) η := rfl
theorem gt_int {i j : Int} {η : Hv} : cmpF .Gt (.int i) (.int j) η = .ok (.bl (decide (j < i))) η := rfl
theorem ge_int {i j : Int} {η : Hv} : cmpF .GtE (.int i) (.int j) η = .ok (.bl (decide (j ≤ i))) η := rfl
theorem eq_int {i j : Int} {η : Hv} : cmpF .Eq (.int i) (.int j) η = .ok (.bl (i == j)) η := rfl
theorem ne_int {i j : Int} {η : Hv} : cmpF .NotEq (.int i) (.int j) η = .ok (.bl (!(i == j))) η := rfl
theorem tru_bl {b : Bool} {η : Hv} : truB η (.bl b) = some b := rfl
theorem dct_tup {xs : List D} {η : Hv} : dctOf η (.tup xs) = none := rfl
theorem dct_lst {xs : List D} {η : Hv} : dctOf η (.lst xs) = none := rfl
theorem dct_str {s : Str} {η : Hv} : dctOf η (.str s) = none := rfl
theorem len_tup {xs : List D} {η : Hv} : biH .len [.tup xs] η = .ok (.int xs.length) η := rfl
theorem len_lst {xs : List D} {η : Hv} : biH .len [.lst xs] η = .ok (.int xs.length) η := rfl
theorem six_n {x : D} {xs : List D} {η : Hv} (j : Nat) (h : xs[j]? = some x) : sixD (.tup xs) (.int j) η = .ok x η := by
  show (match L2.atI xs (j : Int) with
    | some x => R.ok x η
    | none => .bad) = _
  rw [L2.atI_nat h]
theorem sixl_n {x : D} {xs : List D} {η : Hv} (j : Nat) (h : xs[j]? = some x) : sixD (.lst xs) (.int j) η = .ok x η := by
  show (match L2.atI xs (j : Int) with
    | some x => R.ok x η
    | none => .bad) = _
  rw [L2.atI_nat h]
theorem six_0 {x : D} {xs : List D} {η : Hv} : sixD (.tup (x :: xs)) (.int 0) η = .ok x η := six_n 0 rfl
theorem six_1 {x y : D} {xs : List D} {η : Hv} : sixD (.tup (x :: y :: xs)) (.int 1) η = .ok y η := six_n 1 rfl
theorem six_2 {x y z : D} {xs : List D} {η : Hv} : sixD (.tup (x :: y :: z :: xs)) (.int 2) η = .ok z η := six_n 2 rfl
theorem six_3 {x y z u : D} {xs : List D} {η : Hv} : sixD (.tup (x :: y :: z :: u :: xs)) (.int 3) η = .ok u η := six_n 3 rfl
theorem six_4 {x y z u v : D} {xs : List D} {η : Hv} : sixD (.tup (x :: y :: z :: u :: v :: xs)) (.int 4) η = .ok v η := six_n 4 rfl
theorem sixl_0 {x : D} {xs : List D} {η : Hv} : sixD (.lst (x :: xs)) (.int 0) η = .ok x η := sixl_n 0 rfl
theorem sixl_1 {x y : D} {xs : List D} {η : Hv} : sixD (.lst (x :: y :: xs)) (.int 1) η = .ok y η := sixl_n 1 rfl
theorem ty_non {η : Hv} : tyName η .non = some "NoneType" := rfl
theorem ty_bl {b : Bool} {η : Hv} : tyName η (.bl b) = some "bool" := rfl
theorem ty_int {i : Int} {η : Hv} : tyName η (.int i) = some "int" := rfl
theorem ty_str {s : Str} {η : Hv} : tyName η (.str s) = some "str" := rfl
theorem ty_tup {xs : List D} {η : Hv} : tyName η (.tup xs) = some "tuple" := rfl
theorem ty_lst {xs : List D} {η : Hv} : tyName η (.lst xs) = some "list" := rfl
theorem kit_tab : (L2.kitB "NoneType" "tuple" = some false ∧ L2.kitB "bool" "tuple" = some false ∧ L2.kitB "int" "tuple" = some false ∧ L2.kitB "str" "tuple" = some false ∧ L2.kitB "tuple" "tuple" = some true ∧ L2.kitB "list" "tuple" = some false ∧ L2.kitB "dict" "tuple" = some false) ∧
    (L2.kitB "NoneType" "str" = some false ∧ L2.kitB "bool" "str" = some false ∧ L2.kitB "int" "str" = some false ∧ L2.kitB "str" "str" = some true ∧ L2.kitB "tuple" "str" = some false ∧ L2.kitB "list" "str" = some false ∧ L2.kitB "dict" "str" = some false) ∧
    (L2.kitB "NoneType" "int" = some false ∧ L2.kitB "bool" "int" = some true ∧ L2.kitB "int" "int" = some true ∧ L2.kitB "str" "int" = some false ∧ L2.kitB "tuple" "int" = some false ∧ L2.kitB "list" "int" = some false ∧ L2.kitB "dict" "int" = some false) ∧
    (L2.kitB "NoneType" "bool" = some false ∧ L2.kitB "bool" "bool" = some true ∧ L2.kitB "int" "bool" = some false ∧ L2.kitB "str" "bool" = some false ∧ L2.kitB "tuple" "bool" = some false ∧ L2.kitB "list" "bool" = some false ∧ L2.kitB "dict" "bool" = some false) := by
  refine ⟨⟨?_, ?_, ?_, ?_, ?_, ?_, ?_⟩, ⟨?_, ?_, ?_, ?_, ?_, ?_, ?_⟩, ⟨?_, ?_, ?_, ?_, ?_, ?_, ?_⟩, ?_, ?_, ?_, ?_, ?_, ?_, ?_⟩ <;> rfl
theorem kind_str {s : Str} {η : Hv} : kindB η (.str s) = some "str" := rfl
theorem kind_lst {xs : List D} {η : Hv} : kindB η (.lst xs) = some "list" := rfl
theorem is_non {η : Hv} : cmpF .Is .non .non η = .ok (.bl true) η := rfl
theorem is_tup {xs : List D} {η : Hv} : cmpF .Is (.tup xs) .non η = .ok (.bl false) η := rfl
theorem is_int {i : Int} {η : Hv} : cmpF .Is (.int i) .non η = .ok (.bl false) η := rfl
theorem is_str {s : Str} {η : Hv} : cmpF .Is (.str s) .non η = .ok (.bl false) η := rfl
theorem isn_non {η : Hv} : cmpF .IsNot .non .non η = .ok (.bl false) η := rfl
theorem isn_tup {xs : List D} {η : Hv} : cmpF .IsNot (.tup xs) .non η = .ok (.bl true) η := rfl
theorem isn_int {i : Int} {η : Hv} : cmpF .IsNot (.int i) .non η = .ok (.bl true) η := rfl
theorem isn_str {s : Str} {η : Hv} : cmpF .IsNot (.str s) .non η = .ok (.bl true) η := rfl
theorem tup_lst {xs : List D} {η : Hv} : biH .tuple [.lst xs] η = .ok (.tup xs) η := rfl
/-! ### bundles -/
theorem evD : type_of% (And.intro @sSeq_ (And.intro @sPass_ (And.intro @sRet_ (And.intro @sRetN_ (And.intro @sBrk_ (And.intro @sCnt_ (And.intro @sExp_ (And.intro @sRaise_ (And.intro @sIf_ (And.intro @sAsg_ (And.intro @sPar_k (And.intro @x1_ (And.intro @x2_ (And.intro @xC_ (And.intro @xTup_ (And.intro @xLst_ (And.intro @xNil_ (And.intro @xCons_ (And.intro @xFn_ (And.intro @xCall_ (And.intro @xTru_ (And.intro @xNotT_ (And.intro @xAndT_ (And.intro @xOrT_ (And.intro @xIf_ (And.intro @xNot_ (And.intro @xAnd_ (And.intro @xOr_ (And.intro @xBool_ (And.intro @xIsT_ (And.intro @xChain_ (And.intro @xIx_ (And.intro @xSlc_ (And.intro @xPart_ (And.intro @xNoPart_ (And.intro @xBm_ (And.intro @xJoin_ (And.intro @gSlot_ (And.intro @gsNil_ (And.intro @gsCons_ (And.intro @gIx_ (And.intro @xVar_ (And.intro @xFrz_ (And.intro @xSaid_ (And.intro @bind_l (And.intro @ofE_l (And.intro @ofB_l (And.intro @sq_l (And.intro @b_l (And.intro @t_l (And.intro @if_l (And.intro @ch_l (And.intro @bm_l (@jk_l)))))))))))))))))))))))))))))))))))))))))))))))))))))) := And.intro @sSeq_ (And.intro @sPass_ (And.intro @sRet_ (And.intro @sRetN_ (And.intro @sBrk_ (And.intro @sCnt_ (And.intro @sExp_ (And.intro @sRaise_ (And.intro @sIf_ (And.intro @sAsg_ (And.intro @sPar_k (And.intro @x1_ (And.intro @x2_ (And.intro @xC_ (And.intro @xTup_ (And.intro @xLst_ (And.intro @xNil_ (And.intro @xCons_ (And.intro @xFn_ (And.intro @xCall_ (And.intro @xTru_ (And.intro @xNotT_ (And.intro @xAndT_ (And.intro @xOrT_ (And.intro @xIf_ (And.intro @xNot_ (And.intro @xAnd_ (And.intro @xOr_ (And.intro @xBool_ (And.intro @xIsT_ (And.intro @xChain_ (And.intro @xIx_ (And.intro @xSlc_ (And.intro @xPart_ (And.intro @xNoPart_ (And.intro @xBm_ (And.intro @xJoin_ (And.intro @gSlot_ (And.intro @gsNil_ (And.intro @gsCons_ (And.intro @gIx_ (And.intro @xVar_ (And.intro @xFrz_ (And.intro @xSaid_ (And.intro @bind_l (And.intro @ofE_l (And.intro @ofB_l (And.intro @sq_l (And.intro @b_l (And.intro @t_l (And.intro @if_l (And.intro @ch_l (And.intro @bm_l (@jk_l)))))))))))))))))))))))))))))))))))))))))))))))))))))
theorem evU : type_of% (And.intro @jp_nil (And.intro @jp_cons (And.intro @jk_str (And.intro @bind_ok (And.intro @bind_exc (And.intro @ofE_ok (And.intro @ofB_ok (And.intro @ofE_exc (And.intro @ofB_exc (And.intro @sq_nxt (And.intro @sq_ret (And.intro @sq_exc (And.intro @sq_brk (And.intro @sq_cnt (And.intro @ag_ok (And.intro @bk_some (And.intro @tk_some (And.intro @ifk_t (And.intro @ifk_f (And.intro @blk_bl (And.intro @chk_t (And.intro @chk_f (And.intro @kdk_none (And.intro @ptk_int (And.intro @bmk_some (And.intro @vrk_some (And.intro @prk_ok (And.intro @prk_exc (And.intro @noExc_ok (And.intro @tyes (And.intro @frz_same (And.intro @frz_sameE (And.intro @gTupl_c (And.intro @gStarF_t (And.intro @gStarF_l (@said_ok)))))))))))))))))))))))))))))))))))) := And.intro @jp_nil (And.intro @jp_cons (And.intro @jk_str (And.intro @bind_ok (And.intro @bind_exc (And.intro @ofE_ok (And.intro @ofB_ok (And.intro @ofE_exc (And.intro @ofB_exc (And.intro @sq_nxt (And.intro @sq_ret (And.intro @sq_exc (And.intro @sq_brk (And.intro @sq_cnt (And.intro @ag_ok (And.intro @bk_some (And.intro @tk_some (And.intro @ifk_t (And.intro @ifk_f (And.intro @blk_bl (And.intro @chk_t (And.intro @chk_f (And.intro @kdk_none (And.intro @ptk_int (And.intro @bmk_some (And.intro @vrk_some (And.intro @prk_ok (And.intro @prk_exc (And.intro @noExc_ok (And.intro @tyes (And.intro @frz_same (And.intro @frz_sameE (And.intro @gTupl_c (And.intro @gStarF_t (And.intro @gStarF_l (@said_ok)))))))))))))))))))))))))))))))))))
theorem evV : type_of% (And.intro @le_int (And.intro @lt_int (And.intro @gt_int (And.intro @ge_int (And.intro @eq_int (And.intro @ne_int (And.intro @tru_bl (And.intro @dct_tup (And.intro @dct_lst (And.intro @dct_str (And.intro @len_tup (And.intro @len_lst (And.intro @six_0 (And.intro @six_1 (And.intro @six_2 (And.intro @six_3 (And.intro @six_4 (And.intro @sixl_0 (And.intro @sixl_1 (And.intro @ty_non (And.intro @ty_bl (And.intro @ty_int (And.intro @ty_str (And.intro @ty_tup (And.intro @ty_lst (And.intro @kit_tab (And.intro @kind_str (And.intro @kind_lst (And.intro @is_non (And.intro @is_tup (And.intro @is_int (And.intro @is_str (And.intro @isn_non (And.intro @isn_tup (And.intro @isn_int (And.intro @isn_str (And.intro @tup_lst (And.intro @nr_nil (And.intro @nr_cons (And.intro @nr_int (And.intro @nr_str (And.intro @nr_bl (And.intro @nr_non (And.intro @nr_tup (@nr_lst))))))))))))))))))))))))))))))))))))))))))))) := And.intro @le_int (And.intro @lt_int (And.intro @gt_int (And.intro @ge_int (And.intro @eq_int (And.intro @ne_int (And.intro @tru_bl (And.intro @dct_tup (And.intro @dct_lst (And.intro @dct_str (And.intro @len_tup (And.intro @len_lst (And.intro @six_0 (And.intro @six_1 (And.intro @six_2 (And.intro @six_3 (And.intro @six_4 (And.intro @sixl_0 (And.intro @sixl_1 (And.intro @ty_non (And.intro @ty_bl (And.intro @ty_int (And.intro @ty_str (And.intro @ty_tup (And.intro @ty_lst (And.intro @kit_tab (And.intro @kind_str (And.intro @kind_lst (And.intro @is_non (And.intro @is_tup (And.intro @is_int (And.intro @is_str (And.intro @isn_non (And.intro @isn_tup (And.intro @isn_int (And.intro @isn_str (And.intro @tup_lst (And.intro @nr_nil (And.intro @nr_cons (And.intro @nr_int (And.intro @nr_str (And.intro @nr_bl (And.intro @nr_non (And.intro @nr_tup (@nr_lst))))))))))))))))))))))))))))))))))))))))))))
end En
namespace En
open PySem PySem.Spec PyProof.Rows L2
theorem compF {α : Type} {own : List Nat} {i : Iex} {g : Tgt} {t : Tst} {m : Exp} {env : Ev} {η : Hv} {xs : List α} {e : α → D} (p : α → Bool) (f : α → D) (hi : WkOk i env η xs e) (hs : xs.length ≤ sizeLine)
    (hb : ∀ x ∈ xs, ∀ G, ∃ e1, g (e x) (wipeE env own) (η ++ G) = .ok e1 (η ++ G) ∧ t e1 (η ++ G) = .ok (p x) (η ++ G) ∧ (p x = true → m e1 (η ++ G) = .ok (f x) (η ++ G))) (hp : ∀ x ∈ xs, ltD η.length (f x) = true) : frz η (xComp own i g t m env η) = .ok (.lst ((xs.filter p).map f)) η := comp_v p f hi hs hb hp
theorem compM {α : Type} {own : List Nat} {i : Iex} {g : Tgt} {m : Exp} {env : Ev} {η : Hv} {xs : List α} {e : α → D} (f : α → D) (hi : WkOk i env η xs e) (hs : xs.length ≤ sizeLine)
    (hb : ∀ x ∈ xs, ∀ G, ∃ e1, g (e x) (wipeE env own) (η ++ G) = .ok e1 (η ++ G) ∧ m e1 (η ++ G) = .ok (f x) (η ++ G)) (hp : ∀ x ∈ xs, ltD η.length (f x) = true) : frz η (xComp own i g tYesB m env η) = .ok (.lst (xs.map f)) η := comp_m f hi hs hb hp
theorem boolsOf_mapf {α : Type} {p : α → Bool} : ∀ {xs : List α}, boolsOf (xs.map fun x => D.bl (p x)) = some (xs.map p)
  | [] => rfl
  | x :: r => by
    show (boolsOf (r.map fun x => D.bl (p x))).map (p x :: ·) = _
    rw [boolsOf_mapf (xs := r)]
    rfl
theorem all_l {α : Type} {p : α → Bool} {xs : List α} {η : Hv} : biH .all [.lst (xs.map fun x => D.bl (p x))] η = .ok (.bl (xs.all p)) η := by
  show (match (lstOf η (.lst (xs.map fun x => D.bl (p x)))).bind boolsOf with
    | some bs => okB (bs.all id) _
    | none => R.bad) = _
  show (match boolsOf (xs.map fun x => D.bl (p x)) with
    | some bs => okB (bs.all id) _
    | none => R.bad) = _
  rw [boolsOf_mapf]
  show okB _ _ = _
  rw [List.all_map]
  rfl
theorem slc_lst1 {xs : List D} {η : Hv} : slcD (.lst xs) (some 1) none η = newL (xs.drop 1) η := by
  show newL (cutD xs (some 1) none) η = _
  unfold cutD
  rw [show HT.sIx xs.length 0 (some 1) = min 1 xs.length from HT.sIx_nat _ _ 1, HT.sIx_none]
  cases xs with
  | nil => rfl
  | cons k r =>
    rw [show min 1 (k :: r).length = 1 by rw [List.length_cons]; omega]
    congr 1
    exact List.take_of_length_le (by rw [List.length_drop]; omega)
theorem slc_tup1 {xs : List D} {η : Hv} : slcD (.tup xs) (some 1) none η = .ok (.tup (xs.drop 1)) η := by
  show R.ok (D.tup (cutD xs (some 1) none)) η = _
  unfold cutD
  rw [show HT.sIx xs.length 0 (some 1) = min 1 xs.length from HT.sIx_nat _ _ 1, HT.sIx_none]
  cases xs with
  | nil => rfl
  | cons k r =>
    rw [show min 1 (k :: r).length = 1 by rw [List.length_cons]; omega]
    congr 2
    exact List.take_of_length_le (by rw [List.length_drop]; omega)
/-- zip of two lists -/
theorem wk_zip {α β : Type} {m n : Exp} {env : Ev} {η : Hv} {xs : List α} {ys : List β} {e : α → D} {e2 : β → D} (h1 : m env η = .ok (.lst (xs.map e)) η) (h2 : n env η = .ok (.lst (ys.map e2)) η) : WkOk (iZip m n) env η (xs.zip ys) fun p => .tup [e p.1, e2 p.2] := by
  refine ⟨.zip (.lst (xs.map e)) (.lst (ys.map e2)), ?_, fun k η => ?_, fun η => ?_⟩
  · unfold iZip
    rw [h1]
    dsimp only [R.bind]
    rw [h2]
    rfl
  · show some (match (xs.map e)[k]?, (ys.map e2)[k]? with
      | some x, some y => some (D.tup [x, y])
      | _, _ => none) = _
    rw [List.getElem?_map, List.getElem?_map]
    cases q1 : xs[k]? with
    | none =>
      have : (xs.zip ys)[k]? = none := List.getElem?_eq_none (by
        have := List.getElem?_eq_none_iff.mp q1
        rw [List.length_zip]
        omega)
      rw [this]
      rfl
    | some x =>
      cases q2 : ys[k]? with
      | none =>
        have : (xs.zip ys)[k]? = none := List.getElem?_eq_none (by
          have := List.getElem?_eq_none_iff.mp q2
          rw [List.length_zip]
          omega)
        rw [this]
        rfl
      | some y =>
        have : (xs.zip ys)[k]? = some (x, y) := by
          rw [List.getElem?_zip_eq_some]
          exact ⟨q1, q2⟩
        rw [this]
        rfl
  · show _ ≤ (xs.map e).length
    rw [List.length_map, List.length_zip]
    omega
end En
namespace En
open PySem PySem.Spec PyProof.Rows L2
/-! ### walks that change the heap at their start -/
theorem for_to {α : Type} {i : Iex} {g : Tgt} {s : Stm} {xs : List α} {e : α → D} {env : Ev} {η0 η : Hv} {it : Itv} (P : List α → Ev → Hv → Prop) (hi : i env η0 = .ok it η) (hit : WkP it xs e) (h0 : P [] env η)
    (step : ∀ done x rest, xs = done ++ x :: rest → ∀ env η, P done env η → ∃ env' η', stepS g s (e x) env η = .nxt env' η' ∧ P (done ++ [x]) env' η') : ∃ env' η', sFor i g s env η0 = .nxt env' η' ∧ P xs env' η' := by
  unfold sFor
  rw [hi]
  exact loop_gen P (fun r => ∃ env' η', r = .nxt env' η' ∧ P xs env' η') hit (fun done x rest hx env η hP => by
    obtain ⟨env', η', h1, h2⟩ := step done x rest hx env η hP
    exact .inl ⟨env', η', .inl h1, h2⟩) (fun env η hP => ⟨env, η, rfl, hP⟩) xs 0 (sizeI it η) env η (hit.2 η) rfl h0
theorem rng_nat {n : Nat} : WkP (.rng 0 n) (List.range n) fun k : Nat => .int k := by
  have := wkp_rng (lo := 0) (n := n)
  simp only [Int.zero_add] at this
  exact this
theorem rng1_eq1 {m : Exp} {env : Ev} {η η1 : Hv} {i : Int} (h : m env η = .ok (.int i) η1) : iRng1 m env η = if in62 i then R.ok (Itv.rng 0 i.toNat) η1 else .bad := by
  unfold iRng1
  rw [h]
  rfl
theorem rng1_to {m : Exp} {env : Ev} {η η1 : Hv} {j : Nat} (h : m env η = .ok (.int j) η1) (hj : j < 2147483648) : iRng1 m env η = .ok (.rng 0 j) η1 := by
  rw [rng1_eq1 h, if_pos (in62_nn (by omega) (by omega)), Int.toNat_natCast]
/-! ### whole numbers -/
theorem plus_int {i j : Int} {η : Hv} : binF .Add (.int i) (.int j) η = .ok (.int (i + j)) η := rfl
theorem minus_int {i j : Int} {η : Hv} : binF .Sub (.int i) (.int j) η = .ok (.int (i - j)) η := rfl
theorem mod_int {i j : Int} {η : Hv} (h : 0 < j) : binF .Mod (.int i) (.int j) η = .ok (.int (i % j)) η := by
  show (if 0 < j then okI (i % j) η else .bad) = _
  rw [if_pos h]
  rfl
theorem div_int {i j : Int} {η : Hv} (h : 0 < j) (h2 : j < 1073741824) : binF .FloorDiv (.int i) (.int j) η = .ok (.int (i / j)) η := by
  show (if 0 < j ∧ j < 1073741824 then okI (i / j) η else .bad) = _
  rw [if_pos ⟨h, h2⟩]
  rfl
theorem mul_int {i j : Int} {η : Hv} (h : (small i || small j) = true) : binF .Mult (.int i) (.int j) η = .ok (.int (i * j)) η := by
  show (if small i || small j then okI (i * j) η else .bad) = _
  rw [h]
  rfl
theorem small_of {i : Int} (h : 0 ≤ i) (h2 : i < 2147483647) : small i = true := by
  unfold small
  rw [Bool.and_eq_true]
  exact ⟨decide_eq_true (by omega), decide_eq_true (by omega)⟩
/-! ### lists in the heap -/
section
variable {η : Hv} {p : Nat} {xs : List D}
theorem lst_of (h : η[p]? = some (.lst xs)) : lstOf η (.ref p) = some xs := by
  unfold lstOf
  dsimp only
  rw [h]
theorem dct_of (h : η[p]? = some (.lst xs)) : dctOf η (.ref p) = none := by
  unfold dctOf
  dsimp only
  rw [h]
theorem six_of {j : Nat} {x : D} (h : η[p]? = some (.lst xs)) (hx : xs[j]? = some x) : sixD (.ref p) (.int (j : Nat)) η = .ok x η := by
  show (match seqOf η (.ref p) with
    | some xs => (match L2.atI xs (j : Nat) with
      | some x => R.ok x η
      | none => .bad)
    | none => .bad) = _
  rw [show seqOf η (.ref p) = some xs from lst_of h]
  dsimp only
  rw [L2.atI_nat hx]
theorem setl_of {j : Nat} {d : D} (h : η[p]? = some (.lst xs)) (hj : j < xs.length) : setItemD (.ref p) (.int (j : Nat)) d η = .ok () (η.set p (.lst (xs.set j d))) := by
  unfold setItemD
  dsimp only
  rw [h]
  dsimp only
  have : L2.ixN xs.length (j : Nat) = some j := by
    unfold L2.ixN
    rw [if_pos (Int.natCast_nonneg j), if_pos (by exact_mod_cast hj), Int.toNat_natCast]
  rw [this]
theorem get_set {o o' : O} (h : η[p]? = some o) : (η.set p o')[p]? = some o' := List.getElem?_set_self (List.getElem?_eq_some_iff.mp h).1
theorem get_app {o : O} {G : Hv} (h : η[p]? = some o) : (η ++ G)[p]? = some o := by
  rw [List.getElem?_append_left (List.getElem?_eq_some_iff.mp h).1, h]
theorem set_app {o o' : O} {G : Hv} (h : η[p]? = some o) : (η ++ G).set p o' = η.set p o' ++ G := List.set_append_left _ _ (List.getElem?_eq_some_iff.mp h).1
theorem kind_of (h : η[p]? = some (.lst xs)) : kindB η (.ref p) = some "list" := by
  unfold kindB
  dsimp only
  rw [h]
theorem len_of (h : η[p]? = some (.lst xs)) : biH .len [.ref p] η = .ok (.int xs.length) η := by
  show (match lenOf η (.ref p) with
    | some n => okI n _
    | none => R.bad) = _
  have : lenOf η (.ref p) = some xs.length := by
    unfold lenOf
    rw [show seqOf η (.ref p) = some xs from lst_of h]
  rw [this]
  rfl
theorem tup_of (h : η[p]? = some (.lst xs)) : biH .tuple [.ref p] η = .ok (.tup xs) η := by
  show (match seqOf η (.ref p) with
    | some xs => R.ok (D.tup xs) _
    | none => .bad) = _
  rw [show seqOf η (.ref p) = some xs from lst_of h]
theorem app_of {d : D} (h : η[p]? = some (.lst xs)) (hl : xs.length ≤ 100000) : mtG "list" "append" (.ref p) [d] η = .ok .non (η.set p (.lst (xs ++ [d]))) := by
  have e : mtG "list" "append" = appM := by kernel_rfl
  rw [e]
  unfold appM
  dsimp only
  rw [h]
  dsimp only
  rw [if_pos (by rw [sizeLine_eq]; omega)]
theorem pop_of {j : Nat} {x : D} (h : η[p]? = some (.lst xs)) (hx : xs[j]? = some x) (hl : xs.length ≤ 1000) : mtG "list" "pop" (.ref p) [.int (j : Nat)] η = .ok x (η.set p (.lst (xs.eraseIdx j))) := by
  have e : mtG "list" "pop" = popM := by kernel_rfl
  have hj := (List.getElem?_eq_some_iff.mp hx).1
  rw [e]
  unfold popM
  dsimp only
  rw [h]
  dsimp only
  have ix : L2.ixN xs.length (j : Nat) = some j := by
    unfold L2.ixN
    rw [if_pos (Int.natCast_nonneg j), if_pos (by exact_mod_cast hj), Int.toNat_natCast]
  have si := (L2.ixN_seq ix).1
  rw [if_pos ⟨by omega, by omega⟩, si]
  dsimp only
  rw [hx]
theorem gd_set {o' : O} (ho : ltO η.length o' = true) (h : gd η) : gd (η.set p o') := by
  unfold gd at h ⊢
  rw [List.length_set, List.all_eq_true]
  intro o hm
  rcases List.mem_or_eq_of_mem_set hm with z | z
  · exact List.all_eq_true.mp h o z
  · rw [z]; exact ho
end
theorem mokApp : mtOkG "list" "append" = true := by kernel_rfl
theorem mokPop : mtOkG "list" "pop" = true := by kernel_rfl
end En
end

section
set_option maxRecDepth 100000
set_option maxHeartbeats 4000000
/-! M0: texts, orders, weathers: plain. -/
noncomputable section
namespace Tx
open PySem En
inductive Fl where
  | cut | bad | bit (b : Nat)
def Fl.d : Fl → D
  | .cut => .tup [.str "cut"]
  | .bad => .tup [.str "bad"]
  | .bit b => .tup [.str "bit", .int b]
def Fl.ok : Fl → Prop
  | .bit b => b < 47
  | _ => True
def risesB (ks : List Int) : Bool := (ks.zip (ks.drop 1)).all fun p => decide (p.1 < p.2)
def rowD (r : Nat × Fl) : D := .tup [.int r.1, r.2.d]
def wD (w : List (Nat × Fl)) : D := .tup (w.map rowD)
theorem Fl.noRef (f : Fl) : En.noRef f.d = true := by cases f <;> rfl
theorem rowD_noRef (r : Nat × Fl) : noRef (rowD r) = true := by
  show (true && (noRef r.2.d && true)) = true
  rw [Fl.noRef]
  rfl
theorem wD_noRef (w : List (Nat × Fl)) : noRef (wD w) = true := noRefs_map fun r _ => rowD_noRef r
def nT (n : Nat) : Str := Str.ofString (toString (n : Int))
theorem dig_step (m : Nat) (h : 10 ≤ m) : Nat.toDigits 10 m = Nat.toDigits 10 (m / 10) ++ [Nat.digitChar (m % 10)] := by
  have hm : m % 10 < 10 := Nat.mod_lt m (by decide)
  have t : Nat.toDigits 10 (m / 10) ++ Nat.toDigits 10 (m % 10) = Nat.toDigits 10 (10 * (m / 10) + m % 10) := Nat.toDigits_append_toDigits (by decide) (by omega) hm
  rw [Nat.div_add_mod] at t
  rw [← t, Nat.toDigits_of_lt_base hm]
theorem dig_len : ∀ (k m : Nat), m < 10 ^ (k + 1) → (Nat.toDigits 10 m).length ≤ k + 1
  | 0, m, h => by
    rw [Nat.toDigits_of_lt_base (by omega)]
    exact Nat.le_refl _
  | k + 1, m, h => by
    by_cases hm : m < 10
    · rw [Nat.toDigits_of_lt_base hm]
      exact Nat.succ_le_succ (Nat.zero_le _)
    · rw [dig_step m (by omega), List.length_append]
      have := dig_len k (m / 10) (by
        rw [Nat.pow_succ] at h
        omega)
      show _ + 1 ≤ _
      omega
theorem nT_cps (n : Nat) : (nT n).cps.toList = (Nat.toDigits 10 n).map Char.toNat := PySem.W.KIN.signs_num n
theorem str_len (s : Str) : s.length = s.cps.toList.length := by
  show s.cps.size = _
  rw [Array.length_toList]
theorem nT_len {n : Nat} (h : n ≤ 9999) : (nT n).length ≤ 4 := by
  rw [str_len, nT_cps, List.length_map]
  exact dig_len 3 n (by omega)
def WOk (w : List (Nat × Fl)) : Prop := w.length ≤ 40 ∧ (∀ r ∈ w, r.1 ≤ 9999 ∧ r.2.ok) ∧ risesB (w.map fun r => (r.1 : Int)) = true
def Fl.w : Fl → Str
  | .cut => "cut"
  | .bad => "bad"
  | .bit _ => "bit"
def Fl.ns : Fl → List Nat
  | .bit b => [b]
  | _ => []
theorem Fl.d_eq (f : Fl) : f.d = .tup (.str f.w :: f.ns.map fun b : Nat => D.int b) := by cases f <;> rfl
def rowT (r : Nat × Fl) : Str := (((Str.empty ++ nT r.1) ++ (":" : Str)) ++ r.2.w) ++ Str.join ("" : Str) (r.2.ns.map nT)
theorem str_int {i : Nat} {η : Hv} (h : i ≤ 9999) : biH .str [.int i] η = .ok (.str (nT i)) η := by
  show orF strF strSF [.int i] η = _
  have : strF [.int i] η = .ok (.str (nT i)) η := by
    show (if (i : Int).natAbs < 2 ^ 64 then R.ok (D.str (nT i)) η else .bad) = _
    rw [if_pos (by omega)]
  unfold orF
  rw [this]
theorem fmt_int {i : Nat} {η : Hv} (h : i ≤ 9999) : fmtD (.int i) η = .ok (.str (nT i)) η := by
  show (if (i : Int).natAbs < 2 ^ 64 then R.ok (D.str (nT i)) η else .bad) = _
  rw [if_pos (by omega)]
theorem fmt_str {s : Str} {η : Hv} (h : s.length ≤ 1000) : fmtD (.str s) η = .ok (.str s) η := by
  show (if s.length ≤ sizeLine then R.ok (D.str s) η else .bad) = _
  rw [if_pos (by rw [sizeLine_eq]; omega)]
theorem flw_len (f : Fl) : f.w.length = 3 := by cases f <;> kernel_rfl
theorem fln_ok {f : Fl} (h : f.ok) : ∀ b ∈ f.ns, b ≤ 9999 := by
  cases f with
  | bit b =>
    intro c hc
    have : b < 47 := h
    rw [List.mem_singleton.mp hc]
    omega
  | _ => intro c hc; cases hc
theorem add_str {x y : Str} {η : Hv} (h : x.length + y.length ≤ 1000) : binF .Add (.str x) (.str y) η = .ok (.str (x ++ y)) η := by
  show (if x.length + y.length ≤ sizeLine then R.ok (D.str (x ++ y)) η else .bad) = _
  rw [if_pos (by rw [sizeLine_eq]; omega)]
theorem app_len (x y : Str) : (x ++ y).length = x.length + y.length := by
  rw [str_len, str_len, str_len, ← List.length_append]
  congr 1
  exact Array.toList_append
theorem empty_len : (Str.empty : Str).length = 0 := rfl
theorem ns_join (f : Fl) (h : f.ok) : (Str.join ("" : Str) (f.ns.map nT)).length ≤ 4 := by
  cases f with
  | bit b =>
    have : b < 47 := h
    exact nT_len (by omega)
  | _ => exact Nat.zero_le _
theorem rowT_len (r : Nat × Fl) (h1 : r.1 ≤ 9999) (h2 : r.2.ok) : (rowT r).length ≤ 12 := by
  unfold rowT
  rw [app_len, app_len, app_len, app_len, flw_len]
  have := ns_join r.2 h2
  have := nT_len h1
  have e : ((":" : Str)).length = 1 := by kernel_rfl
  rw [e, empty_len]
  omega
theorem wsum : ∀ {w : List (Nat × Fl)}, (∀ r ∈ w, r.1 ≤ 9999 ∧ r.2.ok) → ((w.map rowT).map (·.length)).sum ≤ 12 * w.length
  | [], _ => Nat.zero_le _
  | r :: w, h => by
    have ih := wsum (w := w) fun x hx => h x (List.mem_cons_of_mem _ hx)
    obtain ⟨h1, h2⟩ := h r List.mem_cons_self
    have := rowT_len r h1 h2
    show (rowT r).length + ((w.map rowT).map (·.length)).sum ≤ 12 * (w.length + 1)
    omega
inductive Od where
  | write (p d : Nat) | trim (p : Nat) | read (p : Nat) | mend | group (rows : List (Nat × Nat))
def prD (r : Nat × Nat) : D := .tup [.int r.1, .int r.2]
def Od.w : Od → Str
  | .write _ _ => "write"
  | .trim _ => "trim"
  | .read _ => "read"
  | .mend => "mend"
  | .group _ => "group"
def Od.args : Od → List D
  | .write p d => [.int p, .int d]
  | .trim p => [.int p]
  | .read p => [.int p]
  | .mend => []
  | .group rows => [.tup (rows.map prD)]
def Od.d (o : Od) : D := .tup (.str o.w :: o.args)
def Od.ns : Od → List Nat
  | .write p d => [p, d]
  | .trim p => [p]
  | .read p => [p]
  | .mend => []
  | .group rows => rows.flatMap fun r => [r.1, r.2]
def Od.ok : Od → Prop
  | .write p d => p < 16 ∧ d < 64
  | .trim p => p < 16
  | .read p => p < 16
  | .mend => True
  | .group rows => 1 ≤ rows.length ∧ rows.length ≤ 4 ∧ (∀ r ∈ rows, r.1 < 16 ∧ r.2 < 64) ∧ (rows.map (·.1)).Nodup
theorem prD_noRef (r : Nat × Nat) : noRef (prD r) = true := rfl
def oT (o : Od) : Str := Str.join (" " : Str) (o.w :: o.ns.map nT)
theorem ns_ok {o : Od} (h : o.ok) : (∀ k ∈ o.ns, k ≤ 9999) ∧ o.ns.length ≤ 8 := by
  cases o with
  | write p d =>
    obtain ⟨h1, h2⟩ : p < 16 ∧ d < 64 := h
    refine ⟨fun k hk => ?_, by show 2 ≤ 8; omega⟩
    have hk : k ∈ [p, d] := hk
    rcases List.mem_cons.mp hk with rfl | hk
    · omega
    · rw [List.mem_singleton.mp hk]; omega
  | trim p =>
    have h1 : p < 16 := h
    exact ⟨fun k hk => by rw [List.mem_singleton.mp (show k ∈ [p] from hk)]; omega, by show 1 ≤ 8; omega⟩
  | read p =>
    have h1 : p < 16 := h
    exact ⟨fun k hk => by rw [List.mem_singleton.mp (show k ∈ [p] from hk)]; omega, by show 1 ≤ 8; omega⟩
  | mend => exact ⟨fun k hk => (List.not_mem_nil (show k ∈ ([] : List Nat) from hk)).elim, Nat.zero_le _⟩
  | group rows =>
    obtain ⟨h1, h2, h3, h4⟩ := h
    refine ⟨fun k hk => ?_, ?_⟩
    · obtain ⟨r, hr, hk⟩ := List.mem_flatMap.mp (show k ∈ rows.flatMap fun r => [r.1, r.2] from hk)
      obtain ⟨z1, z2⟩ := h3 r hr
      rcases List.mem_cons.mp hk with rfl | hk
      · omega
      · rw [List.mem_singleton.mp hk]; omega
    · show (rows.flatMap fun r => [r.1, r.2]).length ≤ 8
      have : ∀ l : List (Nat × Nat), (l.flatMap fun r => [r.1, r.2]).length = 2 * l.length := fun l => by
        induction l with
        | nil => rfl
        | cons a r ih => rw [List.flatMap_cons, List.length_append, ih, List.length_cons]; simp; omega
      rw [this]
      omega
theorem odw_len (o : Od) : o.w.length ≤ 5 := by cases o <;> exact Nat.le_of_ble_eq_true (by kernel_rfl)
theorem ksum : ∀ {l : List Nat}, (∀ k ∈ l, k ≤ 9999) → ((l.map nT).map (·.length)).sum ≤ 4 * l.length
  | [], _ => Nat.zero_le _
  | k :: l, h => by
    have ih := ksum (l := l) fun x hx => h x (List.mem_cons_of_mem _ hx)
    have := nT_len (h k List.mem_cons_self)
    show (nT k).length + ((l.map nT).map (·.length)).sum ≤ 4 * (l.length + 1)
    omega
theorem mok_join : mtOkG "str" "join" = true := by kernel_rfl
theorem mok_app : mtOkG "list" "append" = true := by kernel_rfl
theorem nT_digits (n : Nat) : ∀ c ∈ (nT n).cps.toList, 48 ≤ c ∧ c ≤ 57 := by
  intro c hc
  rw [nT_cps] at hc
  obtain ⟨ch, hch, e⟩ := List.mem_map.mp hc
  have r := PyProof.Rows.digit_range (Nat.isDigit_of_mem_toDigits (by decide) (by decide) hch)
  rw [← e]
  exact r
theorem dig_pos (n : Nat) : (Nat.toDigits 10 n) ≠ [] := by
  by_cases h : n < 10
  · rw [Nat.toDigits_of_lt_base h]
    exact List.cons_ne_nil _ _
  · rw [dig_step n (by omega)]
    simp
theorem dig_head : ∀ n : Nat, 0 < n → ∀ c, (Nat.toDigits 10 n).head? = some c → c.toNat ≠ 48 := by
  intro n
  induction n using Nat.strongRecOn with
  | _ n ih =>
    intro hn c hc
    by_cases h : n < 10
    · rw [Nat.toDigits_of_lt_base h] at hc
      cases hc
      have : ∀ k, k < 10 → 0 < k → (Nat.digitChar k).toNat ≠ 48 := by decide
      exact this n h hn
    · rw [dig_step n (by omega)] at hc
      obtain ⟨x, r, e⟩ := List.exists_cons_of_ne_nil (dig_pos (n / 10))
      rw [e] at hc
      cases hc
      exact ih (n / 10) (by omega) (by omega) c (by rw [e]; rfl)
theorem in_fig {c : Nat} {η : Hv} (h : 48 ≤ c ∧ c ≤ 57) : cmpF .In (.str ⟨#[c]⟩) (.str "0123456789") η = .ok (.bl true) η := by
  have all : ∀ c ∈ List.range 58, 48 ≤ c → (!(Builtin.Str.occurrences ("0123456789" : Str) ⟨#[c]⟩ 0 ("0123456789" : Str).length 1).isEmpty) = true := by decide +kernel
  show okB (id (!(Builtin.Str.occurrences ("0123456789" : Str) ⟨#[c]⟩ 0 ("0123456789" : Str).length 1).isEmpty)) η = _
  rw [all c (List.mem_range.mpr (by omega)) h.1]
  rfl
theorem nT_pos (n : Nat) : 1 ≤ (nT n).length := by
  rw [str_len, nT_cps, List.length_map]
  have := dig_pos n
  cases h : Nat.toDigits 10 n with
  | nil => exact (this h).elim
  | cons a r => exact Nat.succ_le_succ (Nat.zero_le _)
theorem nT_first {n : Nat} (h : 0 < n) : ∃ c, (nT n).cps[0]? = some c ∧ c ≠ 48 := by
  obtain ⟨x, r, e⟩ := List.exists_cons_of_ne_nil (dig_pos n)
  refine ⟨x.toNat, ?_, dig_head n h x (by rw [e]; rfl)⟩
  have : (nT n).cps.toList[0]? = some x.toNat := by rw [nT_cps, e]; rfl
  simpa using this
theorem ok_digits {s : Str} (h : ∀ c ∈ s.cps.toList, 48 ≤ c ∧ c ≤ 57) : PyData.strOk s = true := by
  unfold PyData.strOk
  rw [← Array.all_toList, List.all_eq_true]
  intro c hc
  exact decide_eq_true (by have := h c hc; omega)
theorem eq_strs {x y : Str} {η : Hv} (hx : PyData.strOk x = true) (hy : PyData.strOk y = true) : cmpF .Eq (.str x) (.str y) η = .ok (.bl (x == y)) η := by
  show (if SeqAt.shaped (.str x) && SeqAt.shaped (.str y) then okB (id (PyData.eqv (.str x) (.str y))) η else .bad) = _
  have e1 : SeqAt.shaped (.str x) = true := by
    show (PyData.strOk x && _) = true
    rw [hx]
    rfl
  have e2 : SeqAt.shaped (.str y) = true := by
    show (PyData.strOk y && _) = true
    rw [hy]
    rfl
  rw [e1, e2]
  rfl
theorem ne_strs {x y : Str} {η : Hv} (hx : PyData.strOk x = true) (hy : PyData.strOk y = true) : cmpF .NotEq (.str x) (.str y) η = .ok (.bl (!(x == y))) η := by
  show (if SeqAt.shaped (.str x) && SeqAt.shaped (.str y) then okB (!(PyData.eqv (.str x) (.str y))) η else .bad) = _
  have e1 : SeqAt.shaped (.str x) = true := by
    show (PyData.strOk x && _) = true
    rw [hx]
    rfl
  have e2 : SeqAt.shaped (.str y) = true := by
    show (PyData.strOk y && _) = true
    rw [hy]
    rfl
  rw [e1, e2]
  rfl
theorem pyL_ints {α : Type} {f : α → Int} {rf : Nat → Option PyData} : ∀ {l : List α}, pyL rf (l.map fun k => D.int (f k)) = some (l.map fun k => PyData.int (f k))
  | [] => rfl
  | k :: r => by
    show (match some (PyData.int (f k)), pyL rf (r.map fun k => D.int (f k)) with
      | some x, some xs => some (x :: xs)
      | _, _ => none) = _
    rw [pyL_ints (l := r)]
    rfl
theorem lay_ints {α : Type} {f : α → Int} : ∀ {l : List α}, PyData.canLayAll0 (l.map fun k => PyData.int (f k)) = true
  | [] => rfl
  | k :: r => lay_ints (l := r)
theorem depth_ints {α : Type} {f : α → Int} : ∀ {l : List α}, PyData.depthAll (l.map fun k => PyData.int (f k)) = 0
  | [] => rfl
  | k :: r => by
    show max 0 (PyData.depthAll (r.map fun k => PyData.int (f k))) = 0
    rw [depth_ints (l := r)]
    rfl
theorem shaped_list {xs : List PyData} (h1 : PyData.canLayAll0 xs = true) (h2 : PyData.depthAll xs ≤ 60) : SeqAt.shaped (.list xs) = true := by
  show (PyData.canLayAll0 xs && decide (PyData.depthAll xs + 1 ≤ 64)) = true
  rw [h1, decide_eq_true (by omega)]
  rfl
theorem shaped_tup {xs : List PyData} (h1 : PyData.canLayAll0 xs = true) (h2 : PyData.depthAll xs ≤ 60) : SeqAt.shaped (.tuple xs) = true := by
  show (PyData.canLayAll0 xs && decide (PyData.depthAll xs + 1 ≤ 64)) = true
  rw [h1, decide_eq_true (by omega)]
  rfl
def joinL (c : Nat) : List (List Nat) → List Nat
  | [] => []
  | [x] => x
  | x :: y :: r => x ++ c :: joinL c (y :: r)
theorem joinL_cps (c : Nat) : ∀ ws : List Str, (Str.join (⟨#[c]⟩ : Str) ws).cps.toList = joinL c (ws.map fun w => w.cps.toList)
  | [] => rfl
  | [x] => rfl
  | x :: y :: r => by
    show ((x ++ (⟨#[c]⟩ : Str)) ++ Str.join (⟨#[c]⟩ : Str) (y :: r)).cps.toList = _
    have : ∀ a b : Str, (a ++ b).cps.toList = a.cps.toList ++ b.cps.toList := fun a b => Array.toList_append
    rw [this, this, joinL_cps c (y :: r), List.append_assoc]
    rfl
theorem cut_eq {c : Nat} : ∀ {x y a b : List Nat}, c ∉ x → c ∉ y → x ++ c :: a = y ++ c :: b → x = y ∧ a = b
  | [], [], a, b, _, _, h => by cases h; exact ⟨rfl, rfl⟩
  | [], y0 :: y, a, b, _, hy, h => by
    cases h
    exact (hy List.mem_cons_self).elim
  | x0 :: x, [], a, b, hx, _, h => by
    cases h
    exact (hx List.mem_cons_self).elim
  | x0 :: x, y0 :: y, a, b, hx, hy, h => by
    injection h with h1 h2
    obtain ⟨e1, e2⟩ := cut_eq (fun z => hx (List.mem_cons_of_mem _ z)) (fun z => hy (List.mem_cons_of_mem _ z)) h2
    exact ⟨by rw [h1, e1], e2⟩
theorem joinL_inj {c : Nat} : ∀ {xs ys : List (List Nat)}, xs ≠ [] → ys ≠ [] → (∀ x ∈ xs, c ∉ x) → (∀ y ∈ ys, c ∉ y) → joinL c xs = joinL c ys → xs = ys
  | [], _, h, _, _, _, _ => (h rfl).elim
  | _ :: _, [], _, h, _, _, _ => (h rfl).elim
  | [x], [y], _, _, _, _, e => by rw [show x = y from e]
  | [x], y :: y2 :: r, _, _, hx, _, e => by
    have : c ∈ x := by
      have e : x = y ++ c :: joinL c (y2 :: r) := e
      rw [e]
      exact List.mem_append_right _ List.mem_cons_self
    exact (hx x List.mem_cons_self this).elim
  | x :: x2 :: r, [y], _, _, _, hy, e => by
    have : c ∈ y := by
      have e : x ++ c :: joinL c (x2 :: r) = y := e
      rw [← e]
      exact List.mem_append_right _ List.mem_cons_self
    exact (hy y List.mem_cons_self this).elim
  | x :: x2 :: r, y :: y2 :: r2, _, _, hx, hy, e => by
    obtain ⟨e1, e2⟩ := cut_eq (hx x List.mem_cons_self) (hy y List.mem_cons_self) (show x ++ c :: joinL c (x2 :: r) = y ++ c :: joinL c (y2 :: r2) from e)
    rw [e1, joinL_inj (by simp) (by simp) (fun z hz => hx z (List.mem_cons_of_mem _ hz)) (fun z hz => hy z (List.mem_cons_of_mem _ hz)) e2]
theorem str_ext {a b : Str} (h : a.cps.toList = b.cps.toList) : a = b := by
  cases a
  cases b
  congr 1
  exact Array.toList_inj.mp h
theorem split_join {c : Nat} {ws : List Str} (hn : ws ≠ []) (hf : ∀ w ∈ ws, c ∉ w.cps.toList) : Txt.split (Str.join (⟨#[c]⟩ : Str) ws) ⟨#[c]⟩ = ws := by
  have e1 := StrLaws.join_split (Str.join (⟨#[c]⟩ : Str) ws) ⟨#[c]⟩
  have hp : Txt.split (Str.join (⟨#[c]⟩ : Str) ws) ⟨#[c]⟩ ≠ [] := by
    intro h
    have := PyProof.Rows.split_pos (Str.join (⟨#[c]⟩ : Str) ws) ⟨#[c]⟩
    rw [h] at this
    exact absurd this (by decide)
  have hfree := StrLaws.split_free (Str.join (⟨#[c]⟩ : Str) ws) c
  have e2 := congrArg (fun s : Str => s.cps.toList) e1
  rw [joinL_cps, joinL_cps] at e2
  have e3 := joinL_inj (by simpa using hp) (by simpa using hn) (fun x hx => by
    obtain ⟨w, hw, rfl⟩ := List.mem_map.mp hx
    exact hfree w hw) (fun x hx => by
    obtain ⟨w, hw, rfl⟩ := List.mem_map.mp hx
    exact hf w hw) e2
  exact (List.map_inj_right (f := fun w : Str => w.cps.toList) (fun a b h => str_ext h)).mp e3
theorem sp_eq : ((" " : Str)) = ⟨#[32]⟩ := by kernel_rfl
theorem odw_free (o : Od) : 32 ∉ o.w.cps.toList := by
  cases o with
  | write _ _ => exact (by decide +kernel : 32 ∉ ("write" : Str).cps.toList)
  | trim _ => exact (by decide +kernel : 32 ∉ ("trim" : Str).cps.toList)
  | read _ => exact (by decide +kernel : 32 ∉ ("read" : Str).cps.toList)
  | mend => exact (by decide +kernel : 32 ∉ ("mend" : Str).cps.toList)
  | group _ => exact (by decide +kernel : 32 ∉ ("group" : Str).cps.toList)
theorem nT_free {c : Nat} (n : Nat) (h : c < 48 ∨ 57 < c) : c ∉ (nT n).cps.toList := fun hc => by
  have := nT_digits n c hc
  omega
theorem split_oT (o : Od) : Txt.split (oT o) (" " : Str) = o.w :: o.ns.map nT := by
  unfold oT
  rw [sp_eq]
  refine split_join (List.cons_ne_nil _ _) fun w hw => ?_
  rcases List.mem_cons.mp hw with rfl | hw
  · exact odw_free o
  · obtain ⟨k, _, rfl⟩ := List.mem_map.mp hw
    exact nT_free k (.inl (by decide))
theorem oT_len {o : Od} (h : o.ok) : (oT o).length ≤ 50 := by
  obtain ⟨k1, k2⟩ := ns_ok h
  have b := StrLaws.join_length_le (" " : Str) (o.w :: o.ns.map nT)
  have e1 : ((" " : Str)).length = 1 := by kernel_rfl
  have := ksum k1
  have := odw_len o
  rw [e1, List.map_cons, List.sum_cons, List.length_cons, List.length_map] at b
  show (Str.join (" " : Str) (o.w :: o.ns.map nT)).length ≤ 50
  omega
theorem mok_split : mtOkG "str" "split" = true := by kernel_rfl
theorem add_tup {xs ys : List D} {η : Hv} (h : xs.length + ys.length ≤ 1000) : binF .Add (.tup xs) (.tup ys) η = .ok (.tup (xs ++ ys)) η := by
  show (if xs.length + ys.length ≤ sizeLine then R.ok (D.tup (xs ++ ys)) η else .bad) = _
  rw [if_pos (by rw [sizeLine_eq]; omega)]
theorem od_plain {o : Od} (h : ∀ rows, o ≠ .group rows) : o.args = o.ns.map fun k : Nat => D.int k := by
  cases o with
  | group rows => exact (h rows rfl).elim
  | _ => rfl
theorem od_noRef (o : Od) : noRef o.d = true := by
  cases o with
  | group rows =>
    show (true && ((noRefs (rows.map prD)) && true)) = true
    rw [noRefs_map fun r _ => prD_noRef r]
    rfl
  | _ => rfl
def fT (f : Fl) : Str := f.w ++ Str.join ("" : Str) (f.ns.map nT)
theorem rowT_eq (r : Nat × Fl) : rowT r = nT r.1 ++ (":" : Str) ++ fT r.2 := by
  unfold rowT fT
  rw [Str.empty_append, Str.append_assoc, Str.append_assoc]
theorem mok_part : mtOkG "str" "partition" = true := by kernel_rfl
theorem mok_start : mtOkG "str" "startswith" = true := by kernel_rfl
def flP (f : Fl) : PyData := .tuple (.str f.w :: f.ns.map fun b : Nat => PyData.int b)
def rowP (r : Nat × Fl) : PyData := .tuple [.int r.1, flP r.2]
theorem pyD_row {rf : Nat → Option PyData} (r : Nat × Fl) : pyD rf (rowD r) = some (rowP r) := by
  obtain ⟨s, f⟩ := r
  cases f <;> rfl
theorem pyL_rows {rf : Nat → Option PyData} : ∀ w : List (Nat × Fl), pyL rf (w.map rowD) = some (w.map rowP)
  | [] => rfl
  | r :: w => by
    show (match pyD rf (rowD r), pyL rf (w.map rowD) with
      | some x, some xs => some (x :: xs)
      | _, _ => none) = _
    rw [pyD_row, pyL_rows w]
    rfl
theorem lay_row (r : Nat × Fl) : PyData.canLay0 (rowP r) = true := by
  obtain ⟨s, f⟩ := r
  cases f <;> kernel_rfl
theorem lay_rows : ∀ w : List (Nat × Fl), PyData.canLayAll0 (w.map rowP) = true
  | [] => rfl
  | r :: w => by
    show (PyData.canLay0 (rowP r) && PyData.canLayAll0 (w.map rowP)) = true
    rw [lay_row, lay_rows w]
    rfl
theorem depth_row (r : Nat × Fl) : PyData.depth (rowP r) = 2 := by
  obtain ⟨s, f⟩ := r
  cases f <;> rfl
theorem depth_rows : ∀ w : List (Nat × Fl), PyData.depthAll (w.map rowP) ≤ 2
  | [] => Nat.zero_le _
  | r :: w => by
    show max (PyData.depth (rowP r)) (PyData.depthAll (w.map rowP)) ≤ 2
    rw [depth_row]
    have := depth_rows w
    omega
theorem py_w {η : Hv} (w : List (Nat × Fl)) : py η (wD w) = some (.tuple (w.map rowP)) := by
  show (pyL (pyR η 4) (w.map rowD)).map PyData.tuple = _
  rw [pyL_rows]
  rfl
theorem none_in_w {η : Hv} (w : List (Nat × Fl)) : cmpF .In .non (wD w) η = .ok (.bl false) η := by
  show (match py η D.non, py η (wD w) with
    | some x, some (.list ys) => if SeqAt.shaped x && SeqAt.shaped (.list ys) then okB (id (ys.any fun z => PyData.eqv z x)) η else .bad
    | some x, some (.tuple ys) => if SeqAt.shaped x && SeqAt.shaped (.tuple ys) then okB (id (ys.any fun z => PyData.eqv z x)) η else .bad
    | _, _ => .bad) = _
  rw [py_w]
  show (if SeqAt.shaped .none && SeqAt.shaped (.tuple (w.map rowP)) then okB _ _ else .bad) = _
  rw [shaped_tup (lay_rows w) (by have := depth_rows w; omega)]
  have : ((w.map rowP).any fun z => PyData.eqv z .none) = false := by
    rw [List.any_map, List.any_eq_false]
    intro x _
    show ¬ (false = true)
    exact Bool.false_ne_true
  show okB _ _ = _
  rw [this]
  rfl
def asc (s : Str) : Bool := s.cps.toList.all fun c => decide (c < 128)
theorem asc_app {a b : Str} (h1 : asc a = true) (h2 : asc b = true) : asc (a ++ b) = true := by
  unfold asc at *
  rw [show (a ++ b).cps.toList = a.cps.toList ++ b.cps.toList from Array.toList_append, List.all_append, h1, h2]
  rfl
theorem asc_ok {s : Str} (h : asc s = true) : PyData.strOk s = true := by
  unfold PyData.strOk
  rw [← Array.all_toList, List.all_eq_true]
  intro c hc
  have := of_decide_eq_true (List.all_eq_true.mp h c hc)
  exact decide_eq_true (by omega)
theorem asc_join {t : Str} (ht : asc t = true) : ∀ {ws : List Str}, (∀ w ∈ ws, asc w = true) → asc (Str.join t ws) = true
  | [], _ => rfl
  | [x], h => h x List.mem_cons_self
  | x :: y :: r, h => by
    show asc ((x ++ t) ++ Str.join t (y :: r)) = true
    exact asc_app (asc_app (h x List.mem_cons_self) ht) (asc_join ht fun w hw => h w (List.mem_cons_of_mem _ hw))
theorem asc_nT (n : Nat) : asc (nT n) = true := List.all_eq_true.mpr fun c hc => decide_eq_true (by have := nT_digits n c hc; omega)
theorem asc_fT (f : Fl) : asc (fT f) = true := by
  cases f with
  | bit b => exact asc_app (a := "bit") (by decide +kernel) (asc_nT b)
  | cut => decide +kernel
  | bad => decide +kernel
theorem asc_rowT (r : Nat × Fl) : asc (rowT r) = true := by
  rw [rowT_eq]
  exact asc_app (asc_app (asc_nT _) (by decide +kernel)) (asc_fT _)
theorem fT_free (f : Fl) : 32 ∉ (fT f).cps.toList := by
  cases f with
  | bit b =>
    show 32 ∉ (("bit" : Str) ++ nT b).cps.toList
    rw [show (("bit" : Str) ++ nT b).cps.toList = ("bit" : Str).cps.toList ++ (nT b).cps.toList from Array.toList_append, List.mem_append]
    rintro (h | h)
    · exact absurd h (by decide +kernel)
    · exact nT_free b (.inl (by decide)) h
  | cut => decide +kernel
  | bad => decide +kernel
theorem rowT_free (r : Nat × Fl) : 32 ∉ (rowT r).cps.toList := by
  rw [rowT_eq, show (nT r.1 ++ (":" : Str) ++ fT r.2).cps.toList = ((nT r.1).cps.toList ++ (":" : Str).cps.toList) ++ (fT r.2).cps.toList from by rw [← Array.toList_append, ← Array.toList_append]; rfl, List.mem_append, List.mem_append]
  rintro ((h | h) | h)
  · exact nT_free r.1 (.inl (by decide)) h
  · exact absurd h (by decide +kernel)
  · exact fT_free _ h
def wT (w : List (Nat × Fl)) : Str := if w = [] then "-" else Str.join (" " : Str) (w.map rowT)
structure Sm (d : PyData) : Prop where
  sh : d.showable = true
  nd : d.hasDict = false
  lv : d.leavesShort 8 = true
  as : asc d.shown = true
theorem sm_all {xs : List PyData} (h : ∀ x ∈ xs, Sm x) : PyData.showableAll xs = true ∧ PyData.hasDictAll xs = false ∧ PyData.leavesShortAll 8 xs = true ∧ ∀ t ∈ PyData.shownAll xs, asc t = true := by
  induction xs with
  | nil => exact ⟨rfl, rfl, rfl, fun t ht => by cases ht⟩
  | cons x r ih =>
    obtain ⟨h1, h2, h3, h4⟩ := ih fun y hy => h y (List.mem_cons_of_mem _ hy)
    have s := h x List.mem_cons_self
    refine ⟨?_, ?_, ?_, fun t ht => ?_⟩
    · show (PyData.showable x && PyData.showableAll r) = true
      rw [s.sh, h1]
      rfl
    · show (PyData.hasDict x || PyData.hasDictAll r) = false
      rw [s.nd, h2]
      rfl
    · show (PyData.leavesShort 8 x && PyData.leavesShortAll 8 r) = true
      rw [s.lv, h3]
      rfl
    · rcases List.mem_cons.mp (show t ∈ PyData.shown x :: PyData.shownAll r from ht) with rfl | ht
      · exact s.as
      · exact h4 t ht
theorem sm_tup {xs : List PyData} (h : ∀ x ∈ xs, Sm x) : Sm (.tuple xs) := by
  obtain ⟨h1, h2, h3, h4⟩ := sm_all h
  refine ⟨h1, h2, h3, ?_⟩
  show asc (("(" : Str) ++ Str.join ", " (PyData.shownAll xs) ++ (if (PyData.shownAll xs).length == 1 then ",)" else ")" : String)) = true
  refine asc_app (asc_app (by decide +kernel) (asc_join (by decide +kernel) h4)) ?_
  split <;> decide +kernel
theorem sm_int {n : Nat} (h : n ≤ 9999) : Sm (.int n) := by
  refine ⟨?_, rfl, ?_, asc_nT n⟩
  · show decide ((n : Int).natAbs.log2 < 1920) = true
    refine decide_eq_true ?_
    show n.log2 < 1920
    by_cases h0 : n = 0
    · rw [h0]; decide
    · have := (Nat.log2_lt h0).mpr (show n < 2 ^ 14 by omega)
      omega
  · show decide ((nT n).length ≤ 8) = true
    exact decide_eq_true (by have := nT_len h; omega)
theorem sm_word {s : Str} (h : asc (PyData.shown (.str s)) = true) (h2 : PyData.leavesShort 8 (.str s) = true) : Sm (.str s) := ⟨rfl, rfl, h2, h⟩
theorem bulk_all {b : Nat} : ∀ {xs : List PyData}, (∀ x ∈ xs, x.bulk ≤ b) → PyData.bulkAll xs ≤ (b + 1) * xs.length
  | [], _ => Nat.zero_le _
  | x :: r, h => by
    have ih := bulk_all (xs := r) fun y hy => h y (List.mem_cons_of_mem _ hy)
    have := h x List.mem_cons_self
    show PyData.bulk x + 1 + PyData.bulkAll r ≤ (b + 1) * (r.length + 1)
    rw [Nat.mul_add]
    omega
theorem repr_ok {d : PyData} (h : Sm d) (hd : d.depth ≤ 50) (hb : d.bulk ≤ 10000) : reprOk d = true := by
  unfold reprOk
  have := PyData.shown_le_bulk 8 (Nat.le_refl _) d h.lv
  rw [h.sh, h.nd, decide_eq_true hd, decide_eq_true (by rw [sizeLine_eq]; omega)]
  rfl
theorem sm_fl (f : Fl) (h : f.ok) : Sm (flP f) := by
  unfold flP
  refine sm_tup fun x hx => ?_
  rcases List.mem_cons.mp hx with rfl | hx
  · cases f with
    | cut => exact sm_word (by decide +kernel) (by decide +kernel)
    | bad => exact sm_word (by decide +kernel) (by decide +kernel)
    | bit b => exact sm_word (s := "bit") (by decide +kernel) (by decide +kernel)
  · obtain ⟨b, hb, rfl⟩ := List.mem_map.mp hx
    exact sm_int (fln_ok h b hb)
theorem sm_row {r : Nat × Fl} (h1 : r.1 ≤ 9999) (h2 : r.2.ok) : Sm (rowP r) := by
  unfold rowP
  refine sm_tup fun x hx => ?_
  rcases List.mem_cons.mp hx with rfl | hx
  · exact sm_int h1
  · rw [List.mem_singleton.mp hx]
    exact sm_fl _ h2
theorem bulk_row (r : Nat × Fl) : (rowP r).bulk ≤ 8 := by
  obtain ⟨s, f⟩ := r
  cases f <;> exact Nat.le_of_ble_eq_true (by kernel_rfl)
theorem sm_w {w : List (Nat × Fl)} (h : WOk w) : Sm (.tuple (w.map rowP)) := sm_tup fun x hx => by
  obtain ⟨r, hr, rfl⟩ := List.mem_map.mp hx
  obtain ⟨h1, h2⟩ := h.2.1 r hr
  exact sm_row h1 h2
def prP (r : Nat × Nat) : PyData := .tuple [.int r.1, .int r.2]
def Od.ap : Od → List PyData
  | .write p d => [.int p, .int d]
  | .trim p => [.int p]
  | .read p => [.int p]
  | .mend => []
  | .group rows => [.tuple (rows.map prP)]
def Od.p (o : Od) : PyData := .tuple (.str o.w :: o.ap)
theorem pyL_prs {rf : Nat → Option PyData} : ∀ rows : List (Nat × Nat), pyL rf (rows.map prD) = some (rows.map prP)
  | [] => rfl
  | r :: w => by
    show (match some (prP r), pyL rf (w.map prD) with
      | some x, some xs => some (x :: xs)
      | _, _ => none) = _
    rw [pyL_prs w]
    rfl
theorem pyD_od {rf : Nat → Option PyData} (o : Od) : pyD rf o.d = some o.p := by
  cases o with
  | group rows =>
    show (match some (PyData.str "group"), (match (pyL rf (rows.map prD)).map PyData.tuple, some [] with
      | some x, some xs => some (x :: xs)
      | _, _ => none) with
      | some x, some xs => some (x :: xs)
      | _, _ => none).map PyData.tuple = _
    rw [pyL_prs]
    rfl
  | _ => rfl
theorem py_od {η : Hv} (o : Od) : py η o.d = some o.p := pyD_od o
theorem sm_ow (o : Od) : Sm (.str o.w) := by
  cases o with
  | write _ _ => exact sm_word (s := "write") (by decide +kernel) (by decide +kernel)
  | trim _ => exact sm_word (s := "trim") (by decide +kernel) (by decide +kernel)
  | read _ => exact sm_word (s := "read") (by decide +kernel) (by decide +kernel)
  | mend => exact sm_word (s := "mend") (by decide +kernel) (by decide +kernel)
  | group _ => exact sm_word (s := "group") (by decide +kernel) (by decide +kernel)
theorem sm_od {o : Od} (h : o.ok) : Sm o.p := by
  unfold Od.p
  refine sm_tup fun x hx => ?_
  rcases List.mem_cons.mp hx with rfl | hx
  · exact sm_ow o
  · cases o with
    | write p d =>
      obtain ⟨h1, h2⟩ : p < 16 ∧ d < 64 := h
      rcases List.mem_cons.mp (show x ∈ [PyData.int p, .int d] from hx) with rfl | hx
      · exact sm_int (by omega)
      · rw [List.mem_singleton.mp hx]; exact sm_int (by omega)
    | trim p =>
      have h1 : p < 16 := h
      rw [List.mem_singleton.mp (show x ∈ [PyData.int p] from hx)]
      exact sm_int (by omega)
    | read p =>
      have h1 : p < 16 := h
      rw [List.mem_singleton.mp (show x ∈ [PyData.int p] from hx)]
      exact sm_int (by omega)
    | mend => exact (List.not_mem_nil (show x ∈ ([] : List PyData) from hx)).elim
    | group rows =>
      obtain ⟨h1, h2, h3, h4⟩ := h
      rw [List.mem_singleton.mp (show x ∈ [PyData.tuple (rows.map prP)] from hx)]
      refine sm_tup fun y hy => ?_
      obtain ⟨r, hr, rfl⟩ := List.mem_map.mp hy
      obtain ⟨z1, z2⟩ := h3 r hr
      refine sm_tup fun z hz => ?_
      rcases List.mem_cons.mp hz with rfl | hz
      · exact sm_int (by omega)
      · rw [List.mem_singleton.mp hz]; exact sm_int (by omega)
theorem depth_od {o : Od} (h : o.ok) : o.p.depth ≤ 4 ∧ o.p.bulk ≤ 100 := by
  cases o with
  | group rows =>
    obtain ⟨h1, h2, _⟩ := h
    match rows, h1, h2 with
    | [a], _, _ => exact ⟨Nat.le_of_ble_eq_true (by kernel_rfl), Nat.le_of_ble_eq_true (by kernel_rfl)⟩
    | [a, b], _, _ => exact ⟨Nat.le_of_ble_eq_true (by kernel_rfl), Nat.le_of_ble_eq_true (by kernel_rfl)⟩
    | [a, b, c], _, _ => exact ⟨Nat.le_of_ble_eq_true (by kernel_rfl), Nat.le_of_ble_eq_true (by kernel_rfl)⟩
    | [a, b, c, d], _, _ => exact ⟨Nat.le_of_ble_eq_true (by kernel_rfl), Nat.le_of_ble_eq_true (by kernel_rfl)⟩
    | _ :: _ :: _ :: _ :: _ :: _, _, h2 => simp at h2
  | _ => exact ⟨Nat.le_of_ble_eq_true (by kernel_rfl), Nat.le_of_ble_eq_true (by kernel_rfl)⟩
theorem depth_w (w : List (Nat × Fl)) : (PyData.tuple (w.map rowP)).depth ≤ 3 := by
  show PyData.depthAll (w.map rowP) + 1 ≤ 3
  have := depth_rows w
  omega
theorem bulk_w {w : List (Nat × Fl)} (h : w.length ≤ 40) : (PyData.tuple (w.map rowP)).bulk ≤ 360 := by
  show PyData.bulkAll (w.map rowP) ≤ 360
  have := bulk_all (b := 8) (xs := w.map rowP) fun x hx => by
    obtain ⟨r, _, rfl⟩ := List.mem_map.mp hx
    exact bulk_row r
  rw [List.length_map] at this
  omega
theorem repr_d {d : D} {x : PyData} {η : Hv} (h : py η d = some x) (hr : reprOk x = true) : biH .repr [d] η = .ok (.str x.shown) η := by
  show (match py η d with
    | some x => if reprOk x then R.ok (D.str x.shown) η else .bad
    | none => .bad) = _
  rw [h]
  show (if reprOk x then _ else _) = _
  rw [if_pos hr]
theorem repr_od {o : Od} {η : Hv} (h : o.ok) : biH .repr [o.d] η = .ok (.str o.p.shown) η := by
  obtain ⟨h1, h2⟩ := depth_od h
  exact repr_d (py_od o) (repr_ok (sm_od h) (by omega) (by omega))
theorem repr_w {w : List (Nat × Fl)} {η : Hv} (h : WOk w) : biH .repr [wD w] η = .ok (.str (PyData.tuple (w.map rowP)).shown) η :=
  repr_d (py_w w) (repr_ok (sm_w h) (by have := depth_w w; omega) (by have := bulk_w h.1; omega))
theorem eqvAll_strs : ∀ ss : List Str, PyData.eqvAll (ss.map PyData.str) (ss.map PyData.str) = true
  | [] => rfl
  | s :: r => by
    show ((s == s) && PyData.eqvAll (r.map PyData.str) (r.map PyData.str)) = true
    rw [eqvAll_strs r, beq_self_eq_true]
    rfl
theorem asc_oT (o : Od) : asc (oT o) = true := asc_join (by decide +kernel) fun x hx => by
  rcases List.mem_cons.mp hx with rfl | hx
  · cases o with
    | write _ _ => exact (by decide +kernel : asc "write" = true)
    | trim _ => exact (by decide +kernel : asc "trim" = true)
    | read _ => exact (by decide +kernel : asc "read" = true)
    | mend => exact (by decide +kernel : asc "mend" = true)
    | group _ => exact (by decide +kernel : asc "group" = true)
  · obtain ⟨k, _, rfl⟩ := List.mem_map.mp hx
    exact asc_nT k
theorem asc_wT (w : List (Nat × Fl)) : asc (wT w) = true := by
  unfold wT
  split
  · decide +kernel
  · exact asc_join (by decide +kernel) fun x hx => by
      obtain ⟨r, _, rfl⟩ := List.mem_map.mp hx
      exact asc_rowT r
end Tx
end

section
set_option maxRecDepth 100000
set_option maxHeartbeats 4000000
/-! M1: what any text writes: numbers, orders, faults, weathers. Plain. -/
noncomputable section
namespace Tx
open PySem En
theorem asc_of_cps {s : Str} : asc s = true ↔ ∀ c ∈ s.cps.toList, c < 128 := by
  unfold asc
  rw [List.all_eq_true]
  exact ⟨fun h c hc => of_decide_eq_true (h c hc), fun h c hc => decide_eq_true (h c hc)⟩
theorem digc : ∀ d, d < 10 → (Nat.digitChar d).toNat = 48 + d := by decide
theorem dig_conv : ∀ (n : Nat) (l : List Nat), l.length = n + 1 → (∀ c ∈ l, 48 ≤ c ∧ c ≤ 57) → (l.head? ≠ some 48 ∨ n = 0) → ∃ k, k < 10 ^ (n + 1) ∧ (l.head? ≠ some 48 → 0 < k) ∧ (Nat.toDigits 10 k).map Char.toNat = l := by
  intro n
  induction n with
  | zero =>
    intro l hl hd _
    match l, hl with
    | [c], _ =>
      obtain ⟨h1, h2⟩ := hd c (List.mem_singleton.mpr rfl)
      refine ⟨c - 48, by omega, fun h => ?_, ?_⟩
      · have : c ≠ 48 := fun e => h (by rw [e]; rfl)
        omega
      · rw [Nat.toDigits_of_lt_base (by omega)]
        show [(Nat.digitChar (c - 48)).toNat] = [c]
        rw [digc _ (by omega)]
        congr 1
        omega
  | succ n ih =>
    intro l hl hd hh
    have hne : l.head? ≠ some 48 := by rcases hh with h | h; exact h; omega
    have hl0 : l ≠ [] := by intro e; rw [e] at hl; cases hl
    obtain ⟨init, c, rfl⟩ : ∃ i c, l = i ++ [c] := ⟨l.dropLast, l.getLast hl0, (List.dropLast_concat_getLast hl0).symm⟩
    have hil : init.length = n + 1 := by rw [List.length_append] at hl; simp at hl; omega
    have hi0 : init ≠ [] := by intro e; rw [e] at hil; cases hil
    obtain ⟨a, r, rfl⟩ := List.exists_cons_of_ne_nil hi0
    have hh2 : (a :: r).head? ≠ some 48 := hne
    obtain ⟨k, k1, k2, k3⟩ := ih (a :: r) hil (fun c hc => hd c (List.mem_append_left _ hc)) (.inl hh2)
    obtain ⟨h1, h2⟩ := hd c (List.mem_append_right _ (List.mem_singleton.mpr rfl))
    have k0 := k2 hh2
    refine ⟨10 * k + (c - 48), by rw [Nat.pow_succ]; omega, fun _ => by omega, ?_⟩
    rw [dig_step _ (by omega), List.map_append, show (10 * k + (c - 48)) / 10 = k by omega, show (10 * k + (c - 48)) % 10 = c - 48 by omega, k3]
    show _ ++ [(Nat.digitChar (c - 48)).toNat] = _
    rw [digc _ (by omega)]
    congr 2
    omega
theorem nT_inj {k j : Nat} (hk : k < 1000000000) (hj : j < 1000000000) (h : nT k = nT j) : k = j := by
  have h1 : PySem.intText? (nT k) = some (k : Int) := PySem.W.KIN.num_reads (by omega) (by omega)
  have h2 : PySem.intText? (nT j) = some (j : Int) := PySem.W.KIN.num_reads (by omega) (by omega)
  rw [h, h2] at h1
  injection h1 with h1
  exact (Int.ofNat_inj.mp h1).symm
theorem nT_len9 {k : Nat} (hk : k < 1000000000) : (nT k).length ≤ 9 := by
  rw [str_len, nT_cps, List.length_map]
  exact dig_len 8 k hk
open Classical in
/-- the number that a word writes -/
def numIn (w : Str) : Option Nat := if h : ∃ k, k < 1000000000 ∧ w = nT k then some h.choose else none
theorem numIn_nT {k : Nat} (hk : k < 1000000000) : numIn (nT k) = some k := by
  have h : ∃ j, j < 1000000000 ∧ nT k = nT j := ⟨k, hk, rfl⟩
  unfold numIn
  rw [dif_pos h]
  obtain ⟨h1, h2⟩ := h.choose_spec
  exact congrArg some (nT_inj hk h1 h2).symm
theorem numIn_some {w : Str} {k : Nat} (h : numIn w = some k) : k < 1000000000 ∧ w = nT k := by
  unfold numIn at h
  split at h
  · rename_i h0
    cases h
    exact h0.choose_spec
  · cases h
theorem numIn_none {w : Str} (h : numIn w = none) : ∀ k, k < 1000000000 → w ≠ nT k := fun k hk e => by
  rw [e, numIn_nT hk] at h
  cases h
theorem numIn_no {w : Str} (h : ∀ k, k < 1000000000 → w ≠ nT k) : numIn w = none := by
  cases q : numIn w with
  | none => rfl
  | some k => exact (h k (numIn_some q).1 (numIn_some q).2).elim
/-- figures alone, no nought ahead: a number -/
theorem numIn_dig {w : Str} (h1 : 1 ≤ w.length) (h9 : w.length ≤ 9) (hd : ∀ c ∈ w.cps.toList, 48 ≤ c ∧ c ≤ 57) (h0 : w.cps.toList.head? ≠ some 48 ∨ w.length = 1) : ∃ k, k < 1000000000 ∧ w = nT k := by
  rw [str_len] at h1 h9 h0
  obtain ⟨k, k1, _, k3⟩ := dig_conv (w.cps.toList.length - 1) w.cps.toList (by omega) hd (by rcases h0 with h | h; exact .inl h; exact .inr (by omega))
  refine ⟨k, Nat.lt_of_lt_of_le k1 (Nat.le_trans (Nat.pow_le_pow_right (by omega : 0 < 10) (by omega : w.cps.toList.length - 1 + 1 ≤ 9)) (by decide)), str_ext ?_⟩
  rw [nT_cps, k3]
theorem nT_zero : nT 0 = "0" := by kernel_rfl
theorem head_nT {k : Nat} (hk : 0 < k) : (nT k).cps.toList.head? ≠ some 48 := by
  obtain ⟨c, h1, h2⟩ := nT_first hk
  rw [List.head?_eq_getElem?, Array.getElem?_toList, h1]
  intro h
  cases h
  exact h2 rfl
/-- all words' numbers -/
def numsIn : List Str → Option (List Nat)
  | [] => some []
  | w :: r => match numIn w, numsIn r with
    | some k, some ks => some (k :: ks)
    | _, _ => none
theorem numsIn_cons {w : Str} {r : List Str} {k : Nat} {ks : List Nat} (h1 : numIn w = some k) (h2 : numsIn r = some ks) : numsIn (w :: r) = some (k :: ks) := by
  unfold numsIn
  rw [h1, h2]
theorem numsIn_none {w : Str} {r : List Str} (h : numIn w = none ∨ numsIn r = none) : numsIn (w :: r) = none := by
  unfold numsIn
  rcases h with h | h
  · rw [h]
  · rw [h]; cases numIn w <;> rfl
theorem numsIn_some {ws : List Str} : ∀ {ks : List Nat}, numsIn ws = some ks → ws = ks.map nT ∧ ∀ k ∈ ks, k < 1000000000 := by
  induction ws with
  | nil => intro ks h; cases h; exact ⟨rfl, fun k hk => by cases hk⟩
  | cons w r ih =>
    intro ks h
    cases q1 : numIn w with
    | none => rw [numsIn_none (.inl q1)] at h; cases h
    | some k =>
      cases q2 : numsIn r with
      | none => rw [numsIn_none (.inr q2)] at h; cases h
      | some ks' =>
        rw [numsIn_cons q1 q2] at h
        cases h
        obtain ⟨h1, h2⟩ := ih q2
        obtain ⟨h3, h4⟩ := numIn_some q1
        exact ⟨by rw [List.map_cons, h1, h4], fun j hj => by rcases List.mem_cons.mp hj with rfl | hj; exact h3; exact h2 j hj⟩
theorem numsIn_nT {ks : List Nat} : (∀ k ∈ ks, k < 1000000000) → numsIn (ks.map nT) = some ks := by
  induction ks with
  | nil => exact fun _ => rfl
  | cons k r ih => exact fun h => numsIn_cons (numIn_nT (h k List.mem_cons_self)) (ih fun x hx => h x (List.mem_cons_of_mem _ hx))
/-- pairs of a row -/
def prs : List Nat → List (Nat × Nat)
  | a :: b :: r => (a, b) :: prs r
  | _ => []
theorem prs_flat : ∀ {ks : List Nat}, ks.length % 2 = 0 → (prs ks).flatMap (fun r => [r.1, r.2]) = ks
  | [], _ => rfl
  | [_], h => by simp at h
  | a :: b :: r, h => by
    show a :: b :: (prs r).flatMap (fun r => [r.1, r.2]) = _
    rw [prs_flat (by simp at h; omega)]
theorem flat_prs : ∀ rows : List (Nat × Nat), prs (rows.flatMap fun r => [r.1, r.2]) = rows
  | [] => rfl
  | r :: rest => by
    show (r.1, r.2) :: prs (rest.flatMap fun r => [r.1, r.2]) = _
    rw [flat_prs rest]
theorem flat_len (rows : List (Nat × Nat)) : (rows.flatMap fun r => [r.1, r.2]).length = 2 * rows.length := by
  induction rows with
  | nil => rfl
  | cons a r ih => rw [List.flatMap_cons, List.length_append, ih, List.length_cons]; simp; omega
def rowsB (rows : List (Nat × Nat)) : Bool := decide (1 ≤ rows.length) && (decide (rows.length ≤ 4) && ((rows.all fun r => decide (r.1 < 16) && decide (r.2 < 64)) && decide ((rows.map (·.1)).Nodup)))
theorem rowsB_ok {rows : List (Nat × Nat)} : rowsB rows = true ↔ (Od.group rows).ok := by
  unfold rowsB
  rw [Bool.and_eq_true, Bool.and_eq_true, Bool.and_eq_true, decide_eq_true_eq, decide_eq_true_eq, decide_eq_true_eq, List.all_eq_true]
  constructor
  · rintro ⟨h1, h2, h3, h4⟩
    exact ⟨h1, h2, fun r hr => by have := h3 r hr; rw [Bool.and_eq_true, decide_eq_true_eq, decide_eq_true_eq] at this; exact this, h4⟩
  · rintro ⟨h1, h2, h3, h4⟩
    exact ⟨h1, h2, fun r hr => by rw [Bool.and_eq_true, decide_eq_true_eq, decide_eq_true_eq]; exact h3 r hr, h4⟩
/-- the order of a word and numbers -/
def ordF (w : Str) (ks : List Nat) : Option Od :=
  if w = "mend" then (match ks with | [] => some .mend | _ => none)
  else if w = "write" then (match ks with | [p, d] => if p < 16 ∧ d < 64 then some (.write p d) else none | _ => none)
  else if w = "group" then (if ks.length % 2 = 0 ∧ rowsB (prs ks) = true then some (.group (prs ks)) else none)
  else if w = "read" then (match ks with | [p] => if p < 16 then some (.read p) else none | _ => none)
  else if w = "trim" then (match ks with | [p] => if p < 16 then some (.trim p) else none | _ => none)
  else none
theorem ordF_some {w : Str} {ks : List Nat} {o : Od} (h : ordF w ks = some o) : o.ok ∧ o.w = w ∧ o.ns = ks := by
  unfold ordF at h
  split at h
  · rename_i hw; subst hw
    split at h
    · cases h; exact ⟨trivial, rfl, rfl⟩
    · cases h
  split at h
  · rename_i hw; subst hw
    split at h
    · split at h
      · rename_i hc; cases h; exact ⟨hc, rfl, rfl⟩
      · cases h
    · cases h
  split at h
  · rename_i hw; subst hw
    split at h
    · rename_i hc; cases h; exact ⟨rowsB_ok.mp hc.2, rfl, prs_flat hc.1⟩
    · cases h
  split at h
  · rename_i hw; subst hw
    split at h
    · split at h
      · rename_i hc; cases h; exact ⟨hc, rfl, rfl⟩
      · cases h
    · cases h
  split at h
  · rename_i hw; subst hw
    split at h
    · split at h
      · rename_i hc; cases h; exact ⟨hc, rfl, rfl⟩
      · cases h
    · cases h
  · cases h
theorem w_ne {a b : Str} (h : (a == b) = false) : a ≠ b := by
  intro e
  rw [e] at h
  simp at h
theorem ordF_ok {o : Od} (h : o.ok) : ordF o.w o.ns = some o := by
  cases o with
  | mend => rfl
  | write p d =>
    have h : p < 16 ∧ d < 64 := h
    unfold ordF
    rw [if_neg (w_ne (by kernel_rfl)), if_pos (show (Od.write p d).w = ("write" : Str) from rfl)]
    show (if p < 16 ∧ d < 64 then _ else _) = _
    rw [if_pos h]
  | group rows =>
    unfold ordF
    rw [if_neg (w_ne (by kernel_rfl)), if_neg (w_ne (by kernel_rfl)), if_pos (show (Od.group rows).w = ("group" : Str) from rfl)]
    have e : prs (Od.group rows).ns = rows := flat_prs rows
    rw [e, if_pos ⟨by show (rows.flatMap _).length % 2 = 0; rw [flat_len]; omega, rowsB_ok.mpr h⟩]
  | read p =>
    have h : p < 16 := h
    unfold ordF
    rw [if_neg (w_ne (by kernel_rfl)), if_neg (w_ne (by kernel_rfl)), if_neg (w_ne (by kernel_rfl)), if_pos (show (Od.read p).w = ("read" : Str) from rfl)]
    show (if p < 16 then _ else _) = _
    rw [if_pos h]
  | trim p =>
    have h : p < 16 := h
    unfold ordF
    rw [if_neg (w_ne (by kernel_rfl)), if_neg (w_ne (by kernel_rfl)), if_neg (w_ne (by kernel_rfl)), if_neg (w_ne (by kernel_rfl)), if_pos (show (Od.trim p).w = ("trim" : Str) from rfl)]
    show (if p < 16 then _ else _) = _
    rw [if_pos h]
/-- the words of a text, split at blanks: a first one, others -/
def wrds (t : Str) : List Str := Txt.split t (" " : Str)
theorem wrds_ne (t : Str) : wrds t ≠ [] := by
  intro h
  have := PyProof.Rows.split_pos t (" " : Str)
  unfold wrds at h
  rw [h] at this
  exact absurd this (by decide)
theorem wrds_join (t : Str) : Str.join (" " : Str) (wrds t) = t := StrLaws.join_split t (" " : Str)
/-- the order that a text writes -/
def ordIn (t : Str) : Option Od := match wrds t with
  | w :: ws => (numsIn ws).bind (ordF w)
  | [] => none
theorem ordIn_some {t : Str} {o : Od} (h : ordIn t = some o) : o.ok ∧ t = oT o := by
  have hj := wrds_join t
  unfold ordIn at h
  split at h
  · rename_i w ws q
    obtain ⟨ks, h1, h2⟩ := Option.bind_eq_some_iff.mp h
    obtain ⟨h3, h4, h5⟩ := ordF_some h2
    refine ⟨h3, ?_⟩
    rw [← hj, q, (numsIn_some h1).1, ← h4, ← h5]
    rfl
  · cases h
theorem ordIn_oT {o : Od} (h : o.ok) : ordIn (oT o) = some o := by
  have e : wrds (oT o) = o.w :: o.ns.map nT := split_oT o
  unfold ordIn
  rw [e]
  show (numsIn (o.ns.map nT)).bind (ordF o.w) = _
  rw [numsIn_nT fun k hk => by have := (ns_ok h).1 k hk; omega, Option.bind_some, ordF_ok h]
theorem oT_inj {o o' : Od} (h : o.ok) (h' : o'.ok) (e : oT o = oT o') : o = o' := by
  have := ordIn_oT h
  rw [e, ordIn_oT h'] at this
  cases this
  rfl
/-! ### faults, weathers -/
def fltB (f : Fl) : Bool := match f with
  | .bit b => decide (b < 47)
  | _ => true
theorem fltB_ok {f : Fl} : fltB f = true ↔ f.ok := by
  cases f with
  | bit b => exact decide_eq_true_iff
  | _ => exact ⟨fun _ => trivial, fun _ => rfl⟩
def wthB (w : List (Nat × Fl)) : Bool := decide (w.length ≤ 40) && ((w.all fun r => decide (r.1 ≤ 9999) && fltB r.2) && risesB (w.map fun r => (r.1 : Int)))
theorem wthB_ok {w : List (Nat × Fl)} : wthB w = true ↔ WOk w := by
  unfold wthB WOk
  rw [Bool.and_eq_true, Bool.and_eq_true, decide_eq_true_eq, List.all_eq_true]
  constructor
  · rintro ⟨h1, h2, h3⟩
    exact ⟨h1, fun r hr => by have := h2 r hr; rw [Bool.and_eq_true, decide_eq_true_eq, fltB_ok] at this; exact this, h3⟩
  · rintro ⟨h1, h2, h3⟩
    exact ⟨h1, fun r hr => by rw [Bool.and_eq_true, decide_eq_true_eq, fltB_ok]; exact h2 r hr, h3⟩
/-- the fault that a word's end writes -/
def endIn (f : Str) : Option Fl := if f = "cut" then some .cut else if f = "bad" then some .bad else if Txt.startswith f ("bit" : Str) = true then (numIn (L2.cutS f (some 3) none)).map .bit else none
/-- the step and its fault that a word writes -/
def fltIn (w : Str) : Option (Nat × Fl) := match numIn (Txt.partition w (":" : Str)).1 with
  | none => none
  | some k => if (Txt.partition w (":" : Str)).2.1 = "" then none else (endIn (Txt.partition w (":" : Str)).2.2).map (k, ·)
def fltsIn : List Str → Option (List (Nat × Fl))
  | [] => some []
  | w :: r => match fltIn w, fltsIn r with
    | some k, some ks => some (k :: ks)
    | _, _ => none
/-- the weather that a text writes -/
def wetIn (t : Str) : Option (List (Nat × Fl)) := if t = "-" then some [] else match fltsIn (wrds t) with
  | some w => if wthB w = true then some w else none
  | none => none
end Tx
end

section
set_option maxRecDepth 100000
set_option maxHeartbeats 4000000
/-! M2: words of a text, every second one, faults and weathers read back. Plain. -/
noncomputable section
namespace Tx
open PySem En
theorem join_len (c : Nat) : ∀ xs : List (List Nat), xs ≠ [] → (joinL c xs).length + 1 = (xs.map List.length).sum + xs.length
  | [], h => (h rfl).elim
  | [x], _ => by show x.length + 1 = (x.length + 0) + 1; omega
  | x :: y :: r, _ => by
    have ih := join_len c (y :: r) (by simp)
    show (x ++ c :: joinL c (y :: r)).length + 1 = (x.length + ((y :: r).map List.length).sum) + ((y :: r).length + 1)
    rw [List.length_append, List.length_cons]
    omega
theorem join_mem {c k : Nat} : ∀ {xs : List (List Nat)} {x : List Nat}, x ∈ xs → k ∈ x → k ∈ joinL c xs
  | [], _, h, _ => by cases h
  | [y], x, h, hk => by rw [List.mem_singleton.mp h] at hk; exact hk
  | y :: z :: r, x, h, hk => by
    show k ∈ y ++ c :: joinL c (z :: r)
    rcases List.mem_cons.mp h with rfl | h
    · exact List.mem_append_left _ hk
    · exact List.mem_append_right _ (List.mem_cons_of_mem _ (join_mem h hk))
theorem sum_mem {l : List Nat} {k : Nat} (h : k ∈ l) : k ≤ l.sum := by
  induction l with
  | nil => cases h
  | cons a r ih =>
    rw [List.sum_cons]
    rcases List.mem_cons.mp h with rfl | h
    · omega
    · have := ih h; omega
theorem wrds_cps (t : Str) : joinL 32 ((wrds t).map fun w => w.cps.toList) = t.cps.toList := by
  have := wrds_join t
  rw [sp_eq] at this
  rw [← joinL_cps, this]
theorem wrds_len (t : Str) : (wrds t).length ≤ t.length + 1 := by
  have h := join_len 32 ((wrds t).map fun w => w.cps.toList) (by simp [wrds_ne])
  rw [wrds_cps, List.length_map, ← str_len] at h
  omega
theorem wrd_len {t w : Str} (h : w ∈ wrds t) : w.length ≤ t.length := by
  have h1 := join_len 32 ((wrds t).map fun w => w.cps.toList) (by simp [wrds_ne])
  rw [wrds_cps, List.length_map, ← str_len] at h1
  have h2 : w.length ≤ (((wrds t).map fun w => w.cps.toList).map List.length).sum := sum_mem (by
    rw [List.map_map]
    refine List.mem_map.mpr ⟨w, h, ?_⟩
    rw [str_len]
    rfl)
  have : 1 ≤ (wrds t).length := by
    cases q : wrds t with
    | nil => exact (wrds_ne t q).elim
    | cons a r => simp
  omega
theorem wrd_asc {t w : Str} (ha : asc t = true) (h : w ∈ wrds t) : asc w = true := asc_of_cps.mpr fun c hc => asc_of_cps.mp ha c (by
  rw [← wrds_cps]
  exact join_mem (List.mem_map.mpr ⟨w, h, rfl⟩) hc)
/-! ### every second one -/
def ev {α : Type} : List α → List α
  | a :: _ :: r => a :: ev r
  | l => l
def od {α : Type} : List α → List α
  | _ :: b :: r => b :: od r
  | _ => []
theorem ev_pick {α : Type} : ∀ (n : Nat) (xs : List α), xs.length ≤ n → (List.range ((xs.length + 1) / 2)).filterMap (fun m => xs[2 * m]?) = ev xs
  | 0, [], _ => by simp [ev, od]
  | 0, _ :: _, h => by simp at h
  | n + 1, [], _ => by simp [ev, od]
  | n + 1, [a], _ => by simp [ev, od]
  | n + 1, a :: b :: r, h => by
    have e : ((a :: b :: r).length + 1) / 2 = (r.length + 1) / 2 + 1 := by simp; omega
    rw [e, List.range_succ_eq_map, List.filterMap_cons_some (f := fun m => (a :: b :: r)[2 * m]?) (a := 0) (b := a) rfl, List.filterMap_map]
    show a :: _ = a :: ev r
    rw [← ev_pick n r (by simp at h; omega)]
    congr 1
theorem od_pick {α : Type} : ∀ (n : Nat) (xs : List α), xs.length ≤ n → (List.range (xs.length / 2)).filterMap (fun m => xs[1 + 2 * m]?) = od xs
  | 0, [], _ => by simp [ev, od]
  | 0, _ :: _, h => by simp at h
  | n + 1, [], _ => by simp [ev, od]
  | n + 1, [a], _ => by simp [ev, od]
  | n + 1, a :: b :: r, h => by
    have e : (a :: b :: r).length / 2 = r.length / 2 + 1 := by simp; omega
    rw [e, List.range_succ_eq_map, List.filterMap_cons_some (f := fun m => (a :: b :: r)[1 + 2 * m]?) (a := 0) (b := b) rfl, List.filterMap_map]
    show b :: _ = b :: od r
    rw [← od_pick n r (by simp at h; omega)]
    congr 1
theorem pick_ev {α : Type} (xs : List α) : pickL xs none none 2 = ev xs := by
  unfold pickL
  have e1 : (Builtin.Slice.sliceAdjust none none 2 (xs.length : Int)) = (0, (xs.length : Int)) := rfl
  rw [e1]
  have e2 : Builtin.Slice.slicePlaces 0 (xs.length : Int) 2 = (xs.length + 1) / 2 := by
    unfold Builtin.Slice.slicePlaces
    rw [if_pos (by decide)]
    by_cases h : 0 < xs.length
    · rw [if_pos (by omega)]
      omega
    · rw [if_neg (by omega)]
      omega
  rw [e2, ← ev_pick xs.length xs (Nat.le_refl _)]
  congr 1
  funext m
  congr 1
  show (0 + (m : Int) * 2).toNat = 2 * m
  omega
theorem pick_od {α : Type} (xs : List α) : pickL xs (some 1) none 2 = od xs := by
  unfold pickL
  have e1 : (Builtin.Slice.sliceAdjust (some 1) none 2 (xs.length : Int)) = (min 1 (xs.length : Int), (xs.length : Int)) := rfl
  rw [e1]
  have e2 : Builtin.Slice.slicePlaces (min 1 (xs.length : Int)) (xs.length : Int) 2 = xs.length / 2 := by
    unfold Builtin.Slice.slicePlaces
    rw [if_pos (by decide)]
    by_cases h : 1 < xs.length
    · rw [if_pos (by omega)]
      omega
    · rw [if_neg (by omega)]
      omega
  rw [e2, ← od_pick xs.length xs (Nat.le_refl _)]
  cases xs with
  | nil => rfl
  | cons a r =>
    congr 1
    funext m
    congr 1
    show (min 1 ((a :: r).length : Int) + (m : Int) * 2).toNat = 1 + 2 * m
    rw [List.length_cons]
    omega
theorem zip_prs : ∀ ks : List Nat, ks.length % 2 = 0 → zipL (ev (ks.map fun k : Nat => D.int k)) (od (ks.map fun k : Nat => D.int k)) = (prs ks).map prD
  | [], _ => rfl
  | [_], h => by simp at h
  | a :: b :: r, h => by
    have ih := zip_prs r (by simp at h; omega)
    show D.tup [.int a, .int b] :: zipL (ev (r.map fun k : Nat => D.int k)) (od (r.map fun k : Nat => D.int k)) = prD (a, b) :: (prs r).map prD
    rw [ih]
    rfl
theorem ev_len {α : Type} : ∀ xs : List α, (ev xs).length ≤ xs.length
  | [] => Nat.le_refl _
  | [_] => Nat.le_refl _
  | a :: b :: r => by
    show (ev r).length + 1 ≤ r.length + 1 + 1
    have := ev_len r
    omega
theorem od_len {α : Type} : ∀ xs : List α, (od xs).length ≤ xs.length
  | [] => Nat.le_refl _
  | [_] => Nat.zero_le _
  | a :: b :: r => by
    show (od r).length + 1 ≤ r.length + 1 + 1
    have := od_len r
    omega
/-! ### a word at its colon -/
theorem colon_eq : ((":" : Str)) = ⟨#[58]⟩ := by kernel_rfl
theorem at_colon (w : Str) : (58 ∉ w.cps.toList ∧ Txt.partition w (":" : Str) = ((w, ("" : Str), ("" : Str)) : Str × Str × Str)) ∨ ∃ a b : Str, 58 ∉ a.cps.toList ∧ w = a ++ (":" : Str) ++ b ∧ Txt.partition w (":" : Str) = ((a, (":" : Str), b) : Str × Str × Str) := by
  by_cases h : 58 ∈ w.cps.toList
  · obtain ⟨a, b, h1, h2⟩ := List.append_of_mem h |>.elim fun s ⟨t, ht⟩ => by
      have key : ∀ l : List Nat, 58 ∈ l → ∃ a b, l = a ++ 58 :: b ∧ 58 ∉ a := by
        intro l
        induction l with
        | nil => intro h; cases h
        | cons x r ih =>
          intro h
          by_cases hx : x = 58
          · exact ⟨[], r, by rw [hx]; rfl, List.not_mem_nil⟩
          · obtain ⟨a, b, h1, h2⟩ := ih ((List.mem_cons.mp h).resolve_left (Ne.symm hx))
            exact ⟨x :: a, b, by rw [h1]; rfl, fun hm => by rcases List.mem_cons.mp hm with h | h; exact hx h.symm; exact h2 h⟩
      exact key _ h
    refine .inr ⟨⟨a.toArray⟩, ⟨b.toArray⟩, by simpa using h2, ?_, ?_⟩
    · refine str_ext ?_
      rw [h1, colon_eq]
      show _ = ((a.toArray ++ #[58]) ++ b.toArray).toList
      simp
    · have e : w = (⟨a.toArray⟩ : Str) ++ (":" : Str) ++ ⟨b.toArray⟩ := by
        refine str_ext ?_
        rw [h1, colon_eq]
        show _ = ((a.toArray ++ #[58]) ++ b.toArray).toList
        simp
      rw [e]
      exact TL.partition_app (y := (":" : Str)) (s := 58) (S := []) (by kernel_rfl) (by simpa using h2)
  · exact .inl ⟨h, TL.partition_none (y := (":" : Str)) (s := 58) (S := []) (by kernel_rfl) h⟩
theorem bit_cps : (("bit" : Str)).cps.toList = [98, 105, 116] := by decide +kernel
theorem cut3 (f : Str) : (L2.cutS f (some 3) none).cps.toList = f.cps.toList.drop 3 := by
  unfold L2.cutS
  have e1 : HT.sIx f.length 0 (some 3) = min 3 f.length := HT.sIx_nat _ _ 3
  rw [e1, HT.sIx_none]
  show (((f.cps.toList.drop (min 3 f.length)).take (f.length - min 3 f.length)).toArray).toList = _
  rw [str_len, List.take_of_length_le (by rw [List.length_drop]; exact Nat.le_refl _)]
  by_cases h : 3 ≤ f.cps.toList.length
  · rw [Nat.min_eq_left h]
  · rw [Nat.min_eq_right (by omega), List.drop_eq_nil_of_le (by omega), List.drop_eq_nil_of_le (by omega)]
theorem starts_bit {f : Str} (h : Txt.startswith f ("bit" : Str) = true) : f.cps.toList = [98, 105, 116] ++ f.cps.toList.drop 3 := by
  unfold Txt.startswith at h
  rw [Bool.and_eq_true, StrLaws.subAt_eq] at h
  have h2 := eq_of_beq h.2
  rw [List.drop_zero, bit_cps, show (("bit" : Str)).length = 3 by decide +kernel] at h2
  rw [← h2, List.take_append_drop]
theorem starts_of {f : Str} {r : List Nat} (h : f.cps.toList = [98, 105, 116] ++ r) : Txt.startswith f ("bit" : Str) = true := by
  unfold Txt.startswith
  rw [Bool.and_eq_true, StrLaws.subAt_eq, List.drop_zero, bit_cps, show (("bit" : Str)).length = 3 by decide +kernel, h]
  refine ⟨decide_eq_true ?_, ?_⟩
  · rw [str_len, h]; simp
  · show ([98, 105, 116] ++ r).take 3 == [98, 105, 116]
    rfl
def Fl.big (f : Fl) : Prop := match f with
  | .bit b => b < 1000000000
  | _ => True
theorem Fl.ok.big {f : Fl} (h : f.ok) : f.big := by
  cases f with
  | bit b =>
    have : b < 47 := h
    show b < 1000000000
    omega
  | _ => trivial
theorem fT_cut : fT .cut = "cut" := by kernel_rfl
theorem fT_bad : fT .bad = "bad" := by kernel_rfl
theorem fT_bit (b : Nat) : (fT (.bit b)).cps.toList = [98, 105, 116] ++ (nT b).cps.toList := by
  unfold fT
  show ((("bit" : Str)) ++ Str.join ("" : Str) [nT b]).cps.toList = _
  have : ∀ a b : Str, (a ++ b).cps.toList = a.cps.toList ++ b.cps.toList := fun a b => Array.toList_append
  rw [this, bit_cps]
  rfl
theorem endIn_some {s : Str} {f : Fl} (h : endIn s = some f) : s = fT f ∧ f.big := by
  unfold endIn at h
  split at h
  · rename_i e; cases h; exact ⟨by rw [e, fT_cut], trivial⟩
  split at h
  · rename_i e; cases h; exact ⟨by rw [e, fT_bad], trivial⟩
  split at h
  · rename_i hs
    obtain ⟨b, h1, rfl⟩ := Option.map_eq_some_iff.mp h
    obtain ⟨h2, h3⟩ := numIn_some h1
    refine ⟨str_ext ?_, h2⟩
    rw [fT_bit, starts_bit hs, ← cut3, h3]
  · cases h
theorem endIn_fT {f : Fl} (h : f.big) : endIn (fT f) = some f := by
  cases f with
  | cut => unfold endIn; rw [if_pos fT_cut]
  | bad =>
    unfold endIn
    rw [if_neg (by rw [fT_bad]; exact w_ne (by kernel_rfl)), if_pos fT_bad]
  | bit b =>
    have hb := fT_bit b
    have n1 : fT (.bit b) ≠ "cut" := fun e => by
      have := congrArg (fun s : Str => s.cps.toList.head?) e
      rw [show (fT (.bit b)).cps.toList.head? = some 98 by rw [hb]; rfl] at this
      exact absurd this (by decide +kernel)
    have n2 : fT (.bit b) ≠ "bad" := fun e => by
      have := congrArg (fun s : Str => s.cps.toList[1]?) e
      rw [show (fT (.bit b)).cps.toList[1]? = some 105 by rw [hb]; rfl] at this
      exact absurd this (by decide +kernel)
    unfold endIn
    rw [if_neg n1, if_neg n2, if_pos (starts_of hb)]
    have e : L2.cutS (fT (.bit b)) (some 3) none = nT b := str_ext (by rw [cut3, hb]; rfl)
    rw [e, numIn_nT h]
    rfl
theorem fltIn_some {w : Str} {r : Nat × Fl} (h : fltIn w = some r) : w = rowT r ∧ r.1 < 1000000000 ∧ r.2.big := by
  unfold fltIn at h
  rcases at_colon w with ⟨h1, h2⟩ | ⟨a, b, h1, h2, h3⟩
  · rw [h2] at h
    dsimp only at h
    split at h
    · cases h
    · rw [if_pos rfl] at h; cases h
  · rw [h3] at h
    dsimp only at h
    split at h
    · cases h
    · rename_i k q
      rw [if_neg (w_ne (by kernel_rfl))] at h
      obtain ⟨f, h4, rfl⟩ := Option.map_eq_some_iff.mp h
      obtain ⟨h5, h6⟩ := endIn_some h4
      obtain ⟨h7, h8⟩ := numIn_some q
      refine ⟨?_, h7, h6⟩
      rw [rowT_eq, h2, h8, h5]
theorem fltIn_rowT {r : Nat × Fl} (h1 : r.1 < 1000000000) (h2 : r.2.big) : fltIn (rowT r) = some r := by
  unfold fltIn
  have e : Txt.partition (rowT r) (":" : Str) = ((nT r.1, (":" : Str), fT r.2) : Str × Str × Str) := by
    rw [rowT_eq]
    exact TL.partition_app (y := (":" : Str)) (s := 58) (S := []) (by kernel_rfl) (nT_free r.1 (.inr (by decide)))
  rw [e]
  dsimp only
  rw [numIn_nT h1]
  dsimp only
  rw [if_neg (w_ne (by kernel_rfl)), endIn_fT h2]
  rfl
theorem fltsIn_cons {w : Str} {r : List Str} {k : Nat × Fl} {ks : List (Nat × Fl)} (h1 : fltIn w = some k) (h2 : fltsIn r = some ks) : fltsIn (w :: r) = some (k :: ks) := by
  unfold fltsIn
  rw [h1, h2]
theorem fltsIn_none {w : Str} {r : List Str} (h : fltIn w = none ∨ fltsIn r = none) : fltsIn (w :: r) = none := by
  unfold fltsIn
  rcases h with h | h
  · rw [h]
  · rw [h]; cases fltIn w <;> rfl
theorem fltsIn_some {ws : List Str} : ∀ {w : List (Nat × Fl)}, fltsIn ws = some w → ws = w.map rowT ∧ ∀ r ∈ w, r.1 < 1000000000 ∧ r.2.big := by
  induction ws with
  | nil => intro ks h; cases h; exact ⟨rfl, fun k hk => by cases hk⟩
  | cons w r ih =>
    intro ks h
    cases q1 : fltIn w with
    | none => rw [fltsIn_none (.inl q1)] at h; cases h
    | some k =>
      cases q2 : fltsIn r with
      | none => rw [fltsIn_none (.inr q2)] at h; cases h
      | some ks' =>
        rw [fltsIn_cons q1 q2] at h
        cases h
        obtain ⟨h1, h2⟩ := ih q2
        obtain ⟨h3, h4⟩ := fltIn_some q1
        exact ⟨by rw [List.map_cons, h1, h3], fun j hj => by rcases List.mem_cons.mp hj with rfl | hj; exact h4; exact h2 j hj⟩
theorem fltsIn_rowT {w : List (Nat × Fl)} : (∀ r ∈ w, r.1 < 1000000000 ∧ r.2.big) → fltsIn (w.map rowT) = some w := by
  induction w with
  | nil => exact fun _ => rfl
  | cons k r ih => exact fun h => fltsIn_cons (fltIn_rowT (h k List.mem_cons_self).1 (h k List.mem_cons_self).2) (ih fun x hx => h x (List.mem_cons_of_mem _ hx))
theorem wrds_wT {w : List (Nat × Fl)} (h : w ≠ []) : wrds (Str.join (" " : Str) (w.map rowT)) = w.map rowT := by
  unfold wrds
  rw [sp_eq]
  exact split_join (by simpa using h) fun x hx => by
    obtain ⟨r, _, rfl⟩ := List.mem_map.mp hx
    exact rowT_free r
theorem rowT_colon (r : Nat × Fl) : 58 ∈ (rowT r).cps.toList := by
  rw [rowT_eq, colon_eq]
  have : ∀ a b : Str, (a ++ b).cps.toList = a.cps.toList ++ b.cps.toList := fun a b => Array.toList_append
  rw [this, this]
  simp
theorem wT_ne {w : List (Nat × Fl)} (h : w ≠ []) : Str.join (" " : Str) (w.map rowT) ≠ "-" := fun e => by
  obtain ⟨r, rest, rfl⟩ := List.exists_cons_of_ne_nil h
  have h1 : 58 ∈ (Str.join (" " : Str) ((r :: rest).map rowT)).cps.toList := by
    rw [sp_eq, joinL_cps]
    exact join_mem (List.mem_map.mpr ⟨rowT r, List.mem_map.mpr ⟨r, List.mem_cons_self, rfl⟩, rfl⟩) (rowT_colon r)
  rw [e] at h1
  exact absurd h1 (by decide +kernel)
theorem wetIn_some {t : Str} {w : List (Nat × Fl)} (h : wetIn t = some w) : WOk w ∧ wT w = t := by
  unfold wetIn at h
  split at h
  · rename_i e
    cases h
    exact ⟨wthB_ok.mp (by decide +kernel), by rw [e]; rfl⟩
  · split at h
    · rename_i w' q
      split at h
      · rename_i hw
        cases h
        refine ⟨wthB_ok.mp hw, ?_⟩
        obtain ⟨h1, _⟩ := fltsIn_some q
        have hne : w ≠ [] := fun e => by rw [e] at h1; exact wrds_ne t h1
        unfold wT
        rw [if_neg hne, ← h1, wrds_join]
      · cases h
    · cases h
theorem wetIn_wT {w : List (Nat × Fl)} (h : WOk w) : wetIn (wT w) = some w := by
  unfold wetIn wT
  by_cases hw : w = []
  · rw [if_pos hw, if_pos rfl, hw]
  · rw [if_neg hw, if_neg (wT_ne hw), wrds_wT hw, fltsIn_rowT fun r hr => ⟨by have := (h.2.1 r hr).1; omega, (h.2.1 r hr).2.big⟩]
    dsimp only
    rw [if_pos (wthB_ok.mpr h)]
theorem wT_inj {w w' : List (Nat × Fl)} (h : WOk w) (h' : WOk w') (e : wT w = wT w') : w = w' := by
  have := wetIn_wT h
  rw [e, wetIn_wT h'] at this
  cases this
  rfl
end Tx
end

section
set_option maxRecDepth 100000
set_option maxHeartbeats 4000000
/-! M3: the laws' own choices. Plain. -/
noncomputable section
namespace Tx
open PySem En
/-- a state of choices -/
structure S3 where
  a : Int
  b : Int
  c : Int
def st3 (s : S3) : O := .lst [.int s.a, .int s.b, .int s.c]
def chB (s : S3) : Int := (s.b * 48271 + 29 + (s.c + 1)) % 2147483647
def chM (s : S3) : Int := (chB s * chB s + 39373 * chB s + 7) % 2147483629
/-- what is chosen of so many; the state behind -/
def chN (s : S3) (m : Nat) : Nat := if 0 < s.a then (s.a % (m : Int)).toNat else (((chM s * chM s + 50021 * chM s) % 2147483587) / 8 % (m : Int)).toNat
def chS (s : S3) (m : Nat) : S3 := if 0 < s.a then ⟨s.a / (m : Int), s.b, s.c⟩ else ⟨s.a, chB s, s.c + 1⟩
theorem chB_lt (s : S3) : 0 ≤ chB s ∧ chB s < 2147483647 := ⟨Int.emod_nonneg _ (by omega), Int.emod_lt_of_pos _ (by omega)⟩
theorem chM_lt (s : S3) : 0 ≤ chM s ∧ chM s < 2147483647 := by
  have := Int.emod_lt_of_pos (chB s * chB s + 39373 * chB s + 7) (show (0 : Int) < 2147483629 by omega)
  exact ⟨Int.emod_nonneg _ (by omega), by unfold chM; omega⟩
theorem chN_lt {s : S3} {m : Nat} (h : 0 < m) : chN s m < m := by
  unfold chN
  split
  · have h1 := Int.emod_nonneg s.a (show (m : Int) ≠ 0 by omega)
    have h2 := Int.emod_lt_of_pos s.a (show (0 : Int) < (m : Int) by omega)
    omega
  · have h1 := Int.emod_nonneg (((chM s * chM s + 50021 * chM s) % 2147483587) / 8) (show (m : Int) ≠ 0 by omega)
    have h2 := Int.emod_lt_of_pos (((chM s * chM s + 50021 * chM s) % 2147483587) / 8) (show (0 : Int) < (m : Int) by omega)
    omega
/-- rows of unlike places: k of them, from those that are left -/
def rowsG : Nat → S3 → List Nat → List (Nat × Nat) → S3 × List Nat × List (Nat × Nat)
  | 0, s, ps, rows => (s, ps, rows)
  | k + 1, s, ps, rows => rowsG k (chS (chS s ps.length) 64) (ps.eraseIdx (chN s ps.length)) (rows ++ [(ps.getD (chN s ps.length) 0, chN (chS s ps.length) 64)])
theorem rowsG_add : ∀ (j k : Nat) (s : S3) (ps : List Nat) (rows : List (Nat × Nat)), rowsG (j + k) s ps rows = rowsG k (rowsG j s ps rows).1 (rowsG j s ps rows).2.1 (rowsG j s ps rows).2.2
  | 0, k, s, ps, rows => by rw [Nat.zero_add]; rfl
  | j + 1, k, s, ps, rows => by
    rw [show j + 1 + k = (j + k) + 1 by omega]
    exact rowsG_add j k _ _ _
/-- what holds of the places that are left and the rows that are made, of N places and W data -/
structure PRn (N k : Nat) (ps : List Nat) (rows : List (Nat × Nat)) : Prop where
  len : rows.length = k
  left : ps.length + k = N
  nd : ps.Nodup
  lt : ∀ x ∈ ps, x < N
  ok : ∀ r ∈ rows, r.1 < N ∧ r.2 < 64
  rnd : (rows.map (·.1)).Nodup
  dis : ∀ r ∈ rows, r.1 ∉ ps
theorem PRn.step {N k j x d : Nat} {ps : List Nat} {rows : List (Nat × Nat)} (h : PRn N k ps rows) (hx : ps[j]? = some x) (hd : d < 64) : PRn N (k + 1) (ps.eraseIdx j) (rows ++ [(x, d)]) := by
  have hj := (List.getElem?_eq_some_iff.mp hx).1
  have hm : x ∈ ps := List.mem_of_getElem? hx
  have nx : x ∉ ps.eraseIdx j := by
    intro hc
    obtain ⟨i, hi, hne, e⟩ := List.mem_eraseIdx_iff_getElem.mp hc
    obtain ⟨_, e2⟩ := List.getElem?_eq_some_iff.mp hx
    exact hne ((List.getElem_inj h.nd).mp (e.trans e2.symm))
  refine ⟨by rw [List.length_append, h.len]; rfl, by rw [List.length_eraseIdx_of_lt hj]; have := h.left; omega, h.nd.sublist (List.eraseIdx_sublist _ _), fun y hy => h.lt y (List.mem_of_mem_eraseIdx hy), fun r hr => ?_, ?_, fun r hr => ?_⟩
  · rcases List.mem_append.mp hr with hr | hr
    · exact h.ok r hr
    · rw [List.mem_singleton.mp hr]
      exact ⟨h.lt x hm, hd⟩
  · rw [List.map_append, List.nodup_append]
    refine ⟨h.rnd, by simp, fun a ha b hb e => ?_⟩
    obtain ⟨r, hr, rfl⟩ := List.mem_map.mp ha
    obtain rfl : b = x := by simpa using hb
    exact h.dis r hr (e ▸ hm)
  · rcases List.mem_append.mp hr with hr | hr
    · exact fun hc => h.dis r hr (List.mem_of_mem_eraseIdx hc)
    · rw [List.mem_singleton.mp hr]
      exact nx
theorem PRn.init (N : Nat) : PRn N 0 (List.range N) [] := ⟨rfl, by rw [List.length_range]; rfl, List.nodup_range, fun x hx => List.mem_range.mp hx, fun r hr => (List.not_mem_nil hr).elim, List.nodup_nil, fun r hr => (List.not_mem_nil hr).elim⟩
theorem PRn.go {N : Nat} : ∀ (k j : Nat) (s : S3) (ps : List Nat) (rows : List (Nat × Nat)), PRn N j ps rows → j + k ≤ N → PRn N (j + k) (rowsG k s ps rows).2.1 (rowsG k s ps rows).2.2
  | 0, j, s, ps, rows, h, _ => h
  | k + 1, j, s, ps, rows, h, hk => by
    have hp : 0 < ps.length := by have := h.left; omega
    have hj : chN s ps.length < ps.length := chN_lt hp
    have := PRn.go k (j + 1) (chS (chS s ps.length) 64) (ps.eraseIdx (chN s ps.length)) (rows ++ [(ps.getD (chN s ps.length) 0, chN (chS s ps.length) 64)]) (h.step (by rw [List.getD_eq_getElem?_getD, List.getElem?_eq_getElem hj]; rfl) (chN_lt (by omega))) (by omega)
    rw [show j + (k + 1) = j + 1 + k by omega]
    exact this
/-- an order, but mend, of sixteen places; the state behind -/
def ordG (s : S3) : Od × S3 :=
  let way := chN s 9
  let s1 := chS s 9
  let pl := chN s1 16
  let s2 := chS s1 16
  if way < 4 then (.write pl (chN s2 64), chS s2 64)
  else if way = 4 then (.trim pl, s2)
  else if way < 7 then let z := rowsG (1 + chN s2 4) (chS s2 4) (List.range 16) []; (.group z.2.2, z.1)
  else (.read pl, s2)
theorem ordG_ok (s : S3) : (ordG s).1.ok := by
  have h1 := chN_lt (s := chS s 9) (m := 16) (by omega)
  unfold ordG
  dsimp only
  split
  · exact ⟨h1, chN_lt (by omega)⟩
  split
  · exact h1
  split
  · have h2 := chN_lt (s := chS (chS s 9) 16) (m := 4) (by omega)
    have := PRn.go (1 + chN (chS (chS s 9) 16) 4) 0 (chS (chS (chS s 9) 16) 4) (List.range 16) [] (PRn.init 16) (by omega)
    exact ⟨by rw [this.len]; omega, by rw [this.len]; omega, this.ok, this.rnd⟩
  · exact h1
/-! ### any order, any weather -/
def kvD (r : Nat × Fl) : L2.Key × D := (.inl (r.1 : Int), r.2.d)
def putW (ws : List (Nat × Fl)) (r : Nat × Fl) : List (Nat × Fl) := if (ws.any fun x => decide (x.1 = r.1)) = true then ws.map (fun x => if x.1 = r.1 then (x.1, r.2) else x) else ws ++ [r]
theorem inl_eq {a b : Nat} : ((Sum.inl (a : Int) : L2.Key) = Sum.inl (b : Int)) ↔ a = b := by
  constructor
  · intro h
    injection h with h
    exact_mod_cast h
  · rintro rfl
    rfl
theorem putKD_eq (ws : List (Nat × Fl)) (r : Nat × Fl) : putKD (ws.map kvD) (.inl (r.1 : Int)) r.2.d = (putW ws r).map kvD := by
  have e1 : ((ws.map kvD).any fun kv => decide (kv.1 = Sum.inl (r.1 : Int))) = ws.any fun x => decide (x.1 = r.1) := by
    rw [List.any_map]
    congr 1
    funext x
    show decide ((Sum.inl (x.1 : Int) : L2.Key) = Sum.inl (r.1 : Int)) = decide (x.1 = r.1)
    exact decide_eq_decide.mpr inl_eq
  unfold putKD putW
  rw [e1]
  split
  · rw [List.map_map, List.map_map]
    congr 1
    funext x
    show (if (Sum.inl (x.1 : Int) : L2.Key) = Sum.inl (r.1 : Int) then ((Sum.inl (x.1 : Int) : L2.Key), r.2.d) else (Sum.inl (x.1 : Int), x.2.d)) = kvD (if x.1 = r.1 then (x.1, r.2) else x)
    by_cases h : x.1 = r.1
    · rw [if_pos (inl_eq.mpr h), if_pos h]
      rfl
    · rw [if_neg (fun z => h (inl_eq.mp z)), if_neg h]
      rfl
  · rw [List.map_append]
    rfl
structure WR (k : Nat) (ws : List (Nat × Fl)) : Prop where
  len : ws.length ≤ k
  nd : (ws.map (·.1)).Nodup
  ok : ∀ r ∈ ws, r.1 ≤ 9999 ∧ r.2.ok
theorem WR.put {k : Nat} {ws : List (Nat × Fl)} {r : Nat × Fl} (h : WR k ws) (h1 : r.1 ≤ 9999) (h2 : r.2.ok) : WR (k + 1) (putW ws r) := by
  unfold putW
  split
  · rename_i hc
    refine ⟨by rw [List.length_map]; have := h.len; omega, ?_, fun x hx => ?_⟩
    · rw [List.map_map]
      have : ((fun x : Nat × Fl => x.1) ∘ fun x : Nat × Fl => if x.1 = r.1 then (x.1, r.2) else x) = fun x => x.1 := by
        funext x
        show (if x.1 = r.1 then (x.1, r.2) else x).1 = x.1
        split <;> rfl
      rw [this]
      exact h.nd
    · obtain ⟨y, hy, rfl⟩ := List.mem_map.mp hx
      obtain ⟨z1, z2⟩ := h.ok y hy
      split
      · exact ⟨z1, h2⟩
      · exact ⟨z1, z2⟩
  · rename_i hc
    refine ⟨by rw [List.length_append]; have := h.len; simp; omega, ?_, fun x hx => ?_⟩
    · rw [List.map_append, List.nodup_append]
      refine ⟨h.nd, by simp, fun a ha b hb e => ?_⟩
      obtain ⟨y, hy, rfl⟩ := List.mem_map.mp ha
      obtain rfl : b = r.1 := by simpa using hb
      exact hc (List.any_eq_true.mpr ⟨y, hy, decide_eq_true e⟩)
    · rcases List.mem_append.mp hx with hx | hx
      · exact h.ok x hx
      · rw [List.mem_singleton.mp hx]
        exact ⟨h1, h2⟩
theorem rises_of : ∀ {l : List Int}, l.Pairwise (· < ·) → risesB l = true
  | [], _ => rfl
  | [_], _ => rfl
  | a :: b :: r, h => by
    rw [List.pairwise_cons] at h
    have ih := rises_of h.2
    unfold risesB at ih ⊢
    show (decide (a < b) && ((b :: r).zip r).all fun p => decide (p.1 < p.2)) = true
    rw [decide_eq_true (h.1 b List.mem_cons_self)]
    exact ih
theorem keysOf_kv : ∀ ws : List (Nat × Fl), keysOf (ws.map kvD) = some (ws.map fun r => (r.1 : Int))
  | [] => rfl
  | r :: w => by
    show (keysOf (w.map kvD)).map ((r.1 : Int) :: ·) = _
    rw [keysOf_kv w]
    rfl
theorem get_kv {ws : List (Nat × Fl)} (hn : (ws.map (·.1)).Nodup) {r : Nat × Fl} (hr : r ∈ ws) : getK (ws.map kvD) (.inl (r.1 : Int)) = some r.2.d := by
  induction ws with
  | nil => cases hr
  | cons x w ih =>
    rw [List.map_cons, List.nodup_cons] at hn
    unfold getK
    rw [List.map_cons, List.find?_cons]
    show Option.map _ (match decide ((Sum.inl (x.1 : Int) : L2.Key) = Sum.inl (r.1 : Int)) with
      | true => some (kvD x)
      | false => (w.map kvD).find? fun kv => decide (kv.1 = Sum.inl (r.1 : Int))) = _
    rcases List.mem_cons.mp hr with rfl | hr2
    · rw [decide_eq_true rfl]
      rfl
    · have hne : x.1 ≠ r.1 := fun e => hn.1 (e ▸ List.mem_map_of_mem hr2)
      rw [decide_eq_false fun z => hne (inl_eq.mp z)]
      exact ih hn.2 hr2
def srt (ws : List (Nat × Fl)) : List (Nat × Fl) := ws.mergeSort fun a b => leI (a.1 : Int) (b.1 : Int)
theorem srt_keys (ws : List (Nat × Fl)) : (ws.map fun r => (r.1 : Int)).mergeSort leI = (srt ws).map fun r => (r.1 : Int) := (List.map_mergeSort (r := fun a b : Nat × Fl => leI (a.1 : Int) (b.1 : Int)) (s := leI) (f := fun r : Nat × Fl => (r.1 : Int)) fun _ _ _ _ => rfl).symm
theorem srt_ok {k : Nat} {ws : List (Nat × Fl)} (h : WR k ws) (hk : k ≤ 40) : WOk (srt ws) := by
  have pm : (srt ws).Perm ws := List.mergeSort_perm _ _
  refine ⟨by rw [pm.length_eq]; have := h.len; omega, fun r hr => h.ok r (pm.mem_iff.mp hr), rises_of ?_⟩
  have so : (srt ws).Pairwise fun a b => leI (a.1 : Int) (b.1 : Int) = true := List.pairwise_mergeSort (fun a b c h1 h2 => by
    unfold leI at *
    exact decide_eq_true (Int.le_trans (of_decide_eq_true h1) (of_decide_eq_true h2))) (fun a b => by
    unfold leI
    rw [Bool.or_eq_true]
    rcases Int.le_total (a.1 : Int) b.1 with z | z
    · exact .inl (decide_eq_true z)
    · exact .inr (decide_eq_true z)) ws
  have nd : ((srt ws).map (·.1)).Nodup := (pm.map _).nodup_iff.mpr h.nd
  rw [List.pairwise_map]
  have nd2 : (srt ws).Pairwise fun a b => a.1 ≠ b.1 := List.pairwise_map.mp nd
  refine (so.and nd2).imp fun {a b} ⟨z1, z2⟩ => ?_
  unfold leI at z1
  have := of_decide_eq_true z1
  omega
def anyG (s : S3) : Od × S3 :=
  let z1 := ordG s
  let z2 := ordG z1.2
  ((if chN z2.2 5 / 2 = 0 then z1.1 else if chN z2.2 5 / 2 = 1 then .mend else z2.1), chS z2.2 5)
theorem anyG_ok (s : S3) : (anyG s).1.ok := by
  unfold anyG
  dsimp only
  split
  · exact ordG_ok s
  split
  · trivial
  · exact ordG_ok _
def fltG (far : Nat) (s : S3) : (Nat × Fl) × S3 :=
  let s1 := chS s 47
  let s2 := chS s1 4
  let s3 := chS s2 far
  ((([9999, 0, chN s2 far].getD (min 2 (chN s3 12)) 0), ([Fl.cut, .bad, .bit (chN s 47), .bit 46].getD (chN s1 4) .cut)), chS s3 12)
theorem fltG_ok {far : Nat} (hf : 0 < far) (hf2 : far ≤ 10000) (s : S3) : (fltG far s).1.1 ≤ 9999 ∧ (fltG far s).1.2.ok := by
  have h1 := chN_lt (s := s) (m := 47) (by omega)
  have h2 := chN_lt (s := chS s 47) (m := 4) (by omega)
  have h3 := chN_lt (s := chS (chS s 47) 4) hf
  unfold fltG
  dsimp only
  refine ⟨?_, ?_⟩
  · have : min 2 (chN (chS (chS (chS s 47) 4) far) 12) < 3 := by omega
    match min 2 (chN (chS (chS (chS s 47) 4) far) 12), this with
    | 0, _ => exact Nat.le_refl _
    | 1, _ => exact Nat.zero_le _
    | 2, _ => show chN (chS (chS s 47) 4) far ≤ 9999; omega
  · match chN (chS s 47) 4, h2 with
    | 0, _ => exact trivial
    | 1, _ => exact trivial
    | 2, _ => exact h1
    | 3, _ => exact (by omega : 46 < 47)
def wetG (far : Nat) : Nat → S3 → List (Nat × Fl) → S3 × List (Nat × Fl)
  | 0, s, ws => (s, ws)
  | k + 1, s, ws => wetG far k (fltG far s).2 (putW ws (fltG far s).1)
theorem wetG_add (far : Nat) : ∀ (j k : Nat) (s : S3) (ws : List (Nat × Fl)), wetG far (j + k) s ws = wetG far k (wetG far j s ws).1 (wetG far j s ws).2
  | 0, k, s, ws => by rw [Nat.zero_add]; rfl
  | j + 1, k, s, ws => by
    rw [show j + 1 + k = (j + k) + 1 by omega]
    exact wetG_add far j k _ _
theorem WR.go {far : Nat} (hf : 0 < far) (hf2 : far ≤ 10000) : ∀ (k j : Nat) (s : S3) (ws : List (Nat × Fl)), WR j ws → WR (j + k) (wetG far k s ws).2
  | 0, j, s, ws, h => h
  | k + 1, j, s, ws, h => by
    have := WR.go hf hf2 k (j + 1) (fltG far s).2 (putW ws (fltG far s).1) (h.put (fltG_ok hf hf2 s).1 (fltG_ok hf hf2 s).2)
    rw [show j + (k + 1) = j + 1 + k by omega]
    exact this
def manyW (s : S3) : Nat := [0, 1, 5, 40].getD (chN s 4) 0
theorem manyW_le (s : S3) : manyW s ≤ 40 := by
  have h := chN_lt (s := s) (m := 4) (by omega)
  unfold manyW
  match chN s 4, h with
  | 0, _ => exact Nat.zero_le _
  | 1, _ => exact Nat.le_of_ble_eq_true rfl
  | 2, _ => exact Nat.le_of_ble_eq_true rfl
  | 3, _ => exact Nat.le_refl _
/-- a weather; the state behind -/
def wethG (far : Nat) (s : S3) : List (Nat × Fl) × S3 := (srt (wetG far (manyW s) (chS s 4) []).2, (wetG far (manyW s) (chS s 4) []).1)
theorem wethG_ok {far : Nat} (hf : 0 < far) (hf2 : far ≤ 10000) (s : S3) : WOk (wethG far s).1 := by
  have h := WR.go hf hf2 (manyW s) 0 (chS s 4) [] ⟨Nat.le_refl _, List.nodup_nil, fun r hr => (List.not_mem_nil hr).elim⟩
  rw [Nat.zero_add] at h
  exact srt_ok h (manyW_le s)
end Tx
end

section
set_option maxRecDepth 100000
set_option maxHeartbeats 4000000
/-! M4: data compared. Plain. -/
noncomputable section
namespace Tx
open PySem En
mutual
def pl : PyData → Bool
  | .none => true
  | .int _ => true
  | .str _ => true
  | .tuple xs => plA xs
  | .list xs => plA xs
  | _ => false
def plA : List PyData → Bool
  | [] => true
  | x :: r => pl x && plA r
end
mutual
theorem eqv_pl : ∀ (x y : PyData), pl x = true → pl y = true → PyData.eqv x y = true → x = y
  | .none, .none, _, _, _ => rfl
  | .int i, .int j, _, _, h => by rw [eq_of_beq (show (i == j) = true from h)]
  | .str i, .str j, _, _, h => by rw [eq_of_beq (show (i == j) = true from h)]
  | .tuple xs, .tuple ys, h1, h2, h => by rw [eqv_plA xs ys h1 h2 h]
  | .list xs, .list ys, h1, h2, h => by rw [eqv_plA xs ys h1 h2 h]
  | .none, .int _, _, _, h => by cases h
  | .none, .str _, _, _, h => by cases h
  | .none, .tuple _, _, _, h => by cases h
  | .none, .list _, _, _, h => by cases h
  | .int _, .none, _, _, h => by cases h
  | .int _, .str _, _, _, h => by cases h
  | .int _, .tuple _, _, _, h => by cases h
  | .int _, .list _, _, _, h => by cases h
  | .str _, .none, _, _, h => by cases h
  | .str _, .int _, _, _, h => by cases h
  | .str _, .tuple _, _, _, h => by cases h
  | .str _, .list _, _, _, h => by cases h
  | .tuple _, .none, _, _, h => by cases h
  | .tuple _, .int _, _, _, h => by cases h
  | .tuple _, .str _, _, _, h => by cases h
  | .tuple _, .list _, _, _, h => by cases h
  | .list _, .none, _, _, h => by cases h
  | .list _, .int _, _, _, h => by cases h
  | .list _, .str _, _, _, h => by cases h
  | .list _, .tuple _, _, _, h => by cases h
theorem eqv_plA : ∀ (x y : List PyData), plA x = true → plA y = true → PyData.eqvAll x y = true → x = y
  | [], [], _, _, _ => rfl
  | x :: xs, y :: ys, h1, h2, h => by
    unfold plA at h1 h2
    rw [Bool.and_eq_true] at h1 h2
    have h : (PyData.eqv x y && PyData.eqvAll xs ys) = true := h
    rw [Bool.and_eq_true] at h
    rw [eqv_pl x y h1.1 h2.1 h.1, eqv_plA xs ys h1.2 h2.2 h.2]
  | [], _ :: _, _, _, h => by cases h
  | _ :: _, [], _, _, h => by cases h
end
mutual
theorem eqv_refl : ∀ (x : PyData), pl x = true → PyData.eqv x x = true
  | .none, _ => rfl
  | .int i, _ => beq_self_eq_true i
  | .str i, _ => beq_self_eq_true i
  | .tuple xs, h => eqv_reflA xs h
  | .list xs, h => eqv_reflA xs h
theorem eqv_reflA : ∀ (x : List PyData), plA x = true → PyData.eqvAll x x = true
  | [], _ => rfl
  | x :: xs, h => by
    unfold plA at h
    rw [Bool.and_eq_true] at h
    show (PyData.eqv x x && PyData.eqvAll xs xs) = true
    rw [eqv_refl x h.1, eqv_reflA xs h.2]
    rfl
end
theorem eqv_dec {x y : PyData} {p : Prop} [Decidable p] (hx : pl x = true) (hy : pl y = true) (h : p ↔ x = y) : PyData.eqv x y = decide p := by
  by_cases hp : p
  · rw [decide_eq_true hp, ← h.mp hp, eqv_refl x hx]
  · rw [decide_eq_false hp]
    refine Bool.eq_false_iff.mpr fun e => hp (h.mpr (eqv_pl x y hx hy e))
theorem plA_map {α : Type} {f : α → PyData} {xs : List α} (h : ∀ x ∈ xs, pl (f x) = true) : plA (xs.map f) = true := by
  induction xs with
  | nil => rfl
  | cons x r ih =>
    show (pl (f x) && plA (r.map f)) = true
    rw [h x List.mem_cons_self, ih fun y hy => h y (List.mem_cons_of_mem _ hy)]
    rfl
theorem pl_od (o : Od) : pl o.p = true := by
  cases o with
  | group rows =>
    show (true && (plA (rows.map prP) && true)) = true
    rw [plA_map fun r _ => rfl]
    rfl
  | _ => rfl
theorem pl_flP (f : Fl) : pl (flP f) = true := by cases f <;> rfl
theorem pl_rowP (r : Nat × Fl) : pl (rowP r) = true := by
  show (true && (pl (flP r.2) && true)) = true
  rw [pl_flP]
  rfl
theorem pl_w (w : List (Nat × Fl)) : pl (.tuple (w.map rowP)) = true := plA_map fun r _ => pl_rowP r
/-- the numbers of an order's data -/
def apNs : List PyData → List Nat
  | [] => []
  | .int i :: r => i.toNat :: apNs r
  | .tuple xs :: _ => xs.flatMap fun x => match x with
    | .tuple [.int a, .int b] => [a.toNat, b.toNat]
    | _ => []
  | _ => []
theorem apNs_od (o : Od) : apNs o.ap = o.ns := by
  cases o with
  | group rows =>
    show (rows.map prP).flatMap _ = rows.flatMap _
    rw [List.flatMap_map]
    rfl
  | _ => rfl
theorem od_p_inj {o o' : Od} (h : o.ok) (h' : o'.ok) : o = o' ↔ o.p = o'.p := by
  refine ⟨fun e => by rw [e], fun e => ?_⟩
  unfold Od.p at e
  injection e with e
  injection e with e1 e2
  injection e1 with e1
  have e3 := congrArg apNs e2
  rw [apNs_od, apNs_od] at e3
  have h1 := ordF_ok h
  rw [e1, e3, ordF_ok h'] at h1
  cases h1
  rfl
def Fl.of (w : Str) (ns : List PyData) : Fl := match ns with
  | [.int b] => .bit b.toNat
  | _ => if w = "cut" then .cut else .bad
theorem fl_of (f : Fl) : Fl.of f.w (f.ns.map fun b : Nat => PyData.int b) = f := by
  cases f with
  | cut => show (if ("cut" : Str) = "cut" then Fl.cut else .bad) = _; rw [if_pos rfl]
  | bad => show (if ("bad" : Str) = "cut" then Fl.cut else .bad) = _; rw [if_neg (w_ne (by kernel_rfl))]
  | bit b => rfl
theorem rowP_inj {r r' : Nat × Fl} (e : rowP r = rowP r') : r = r' := by
  unfold rowP flP at e
  injection e with e
  injection e with e1 e2
  injection e1 with e1
  injection e2 with e2 _
  injection e2 with e2
  injection e2 with e3 e4
  injection e3 with e3
  have h1 := fl_of r.2
  rw [e3, e4, fl_of] at h1
  have h2 : r.1 = r'.1 := by exact_mod_cast e1
  exact Prod.ext h2 h1.symm
theorem w_p_inj {w w' : List (Nat × Fl)} : w = w' ↔ PyData.tuple (w.map rowP) = PyData.tuple (w'.map rowP) := by
  refine ⟨fun e => by rw [e], fun e => ?_⟩
  injection e with e
  have : ∀ (w w' : List (Nat × Fl)), w.map rowP = w'.map rowP → w = w' := by
    intro w
    induction w with
    | nil => intro w' h; cases w' with | nil => rfl | cons _ _ => cases h
    | cons a r ih =>
      intro w' h
      cases w' with
      | nil => cases h
      | cons b t =>
        injection h with h1 h2
        rw [rowP_inj h1, ih t h2]
  exact this w w' e
end Tx
end

section
set_option maxRecDepth 100000
set_option maxHeartbeats 4000000
/-! T1: looks, weathers: what the program's defs answer. -/
noncomputable section
namespace Mi
open PySem En Tx
variable {n : Nat} {η : Hv}
theorem whole_int {i : Int} : Q (n + 1) f_is_whole [.int i] η = .ok (.bl true) η := by
  rw [u_is_whole]
  refine fin_r ?_
  unfold m_is_whole
  simp only [↓evD, evU, evV, frz_newN, Option.bind_some, Bool.not_true, Bool.not_false, Bool.and_true, Bool.and_self, decide_true, decide_false, sizeLine_eq, Int.reduceLE, Int.reduceLT, Int.reduceBEq, Int.reduceAdd, Int.reduceSub, Int.cast_ofNat_Int, Int.natCast_zero, Int.natCast_one, List.length_cons, List.length_nil, Nat.reduceLeDiff, Nat.reduceAdd, Nat.reduceEqDiff, List.getElem?_cons_zero, List.getElem?_cons_succ, List.set_cons_zero, List.set_cons_succ, List.append_nil, List.nil_append, List.cons_append]
theorem within_int {i a b : Int} : Q (n + 2) f_is_within [.int i, .int a, .int b] η = .ok (.bl (decide (a ≤ i) && decide (i ≤ b))) η := by
  rw [u_is_within]
  refine fin_r ?_
  unfold m_is_within
  cases h : decide (a ≤ i) <;> simp only [↓evD, evU, evV, frz_newN, Option.bind_some, Bool.not_true, Bool.not_false, Bool.and_true, Bool.and_self, decide_true, decide_false, sizeLine_eq, Int.reduceLE, Int.reduceLT, Int.reduceBEq, Int.reduceAdd, Int.reduceSub, Int.cast_ofNat_Int, Int.natCast_zero, Int.natCast_one, List.length_cons, List.length_nil, Nat.reduceLeDiff, Nat.reduceAdd, Nat.reduceEqDiff, List.getElem?_cons_zero, List.getElem?_cons_succ, List.set_cons_zero, List.set_cons_succ, List.append_nil, List.nil_append, List.cons_append, gst_F, whole_int, h, Bool.false_and, Bool.true_and]
theorem place_int {i : Int} : Q (n + 3) f_is_place [.int i] η = .ok (.bl (decide (0 ≤ i) && decide (i ≤ 15))) η := by
  rw [u_is_place]
  refine fin_r ?_
  unfold m_is_place
  simp only [↓evD, evU, evV, frz_newN, Option.bind_some, Bool.not_true, Bool.not_false, Bool.and_true, Bool.and_self, decide_true, decide_false, sizeLine_eq, Int.reduceLE, Int.reduceLT, Int.reduceBEq, Int.reduceAdd, Int.reduceSub, Int.cast_ofNat_Int, Int.natCast_zero, Int.natCast_one, List.length_cons, List.length_nil, Nat.reduceLeDiff, Nat.reduceAdd, Nat.reduceEqDiff, List.getElem?_cons_zero, List.getElem?_cons_succ, List.set_cons_zero, List.set_cons_succ, List.append_nil, List.nil_append, List.cons_append, gst_F, within_int]
theorem row_ints {i j : Int} : Q (n + 4) f_is_row [.tup [.int i, .int j]] η = .ok (.bl ((decide (0 ≤ i) && decide (i ≤ 15)) && (decide (0 ≤ j) && decide (j ≤ 63)))) η := by
  rw [u_is_row]
  refine fin_r ?_
  unfold m_is_row
  cases h : (decide (0 ≤ i) && decide (i ≤ 15)) <;> simp only [↓evD, evU, evV, frz_newN, Option.bind_some, Bool.not_true, Bool.not_false, Bool.and_true, Bool.and_self, decide_true, decide_false, sizeLine_eq, Int.reduceLE, Int.reduceLT, Int.reduceBEq, Int.reduceAdd, Int.reduceSub, Int.cast_ofNat_Int, Int.natCast_zero, Int.natCast_one, List.length_cons, List.length_nil, Nat.reduceLeDiff, Nat.reduceAdd, Nat.reduceEqDiff, List.getElem?_cons_zero, List.getElem?_cons_succ, List.set_cons_zero, List.set_cons_succ, List.append_nil, List.nil_append, List.cons_append, gst_F, gst_B, within_int, place_int, h, Bool.false_and, Bool.true_and]
theorem row_len {xs : List D} (hl : xs.length ≠ 2) : Q (n + 1) f_is_row [.tup xs] η = .ok (.bl false) η := by
  rw [u_is_row]
  refine fin_r ?_
  unfold m_is_row
  have l2 : ((((xs.length : Nat) : Int)) == 2) = false := by
    rw [beq_eq_false_iff_ne]
    omega
  simp only [↓evD, evU, evV, frz_newN, Option.bind_some, Bool.not_true, Bool.not_false, Bool.and_true, Bool.and_self, decide_true, decide_false, sizeLine_eq, Int.reduceLE, Int.reduceLT, Int.reduceBEq, Int.reduceAdd, Int.reduceSub, Int.cast_ofNat_Int, Int.natCast_zero, Int.natCast_one, List.length_cons, List.length_nil, Nat.reduceLeDiff, Nat.reduceAdd, Nat.reduceEqDiff, List.getElem?_cons_zero, List.getElem?_cons_succ, List.set_cons_zero, List.set_cons_succ, List.append_nil, List.nil_append, List.cons_append, gst_B, l2]
theorem fault_fl {f : Fl} : Q (n + 3) f_is_fault [f.d] η = .ok (.bl (fltB f)) η := by
  rw [u_is_fault]
  refine fin_r ?_
  unfold m_is_fault
  cases f with
  | cut =>
    have c1 : cmpF .Eq (Fl.d .cut) (.tup [.str "cut"]) η = .ok (.bl true) η := by kernel_rfl
    simp only [↓evD, evU, evV, frz_newN, Option.bind_some, Bool.not_true, Bool.not_false, Bool.and_true, Bool.and_self, decide_true, decide_false, sizeLine_eq, Int.reduceLE, Int.reduceLT, Int.reduceBEq, Int.reduceAdd, Int.reduceSub, Int.cast_ofNat_Int, Int.natCast_zero, Int.natCast_one, List.length_cons, List.length_nil, Nat.reduceLeDiff, Nat.reduceAdd, Nat.reduceEqDiff, List.getElem?_cons_zero, List.getElem?_cons_succ, List.set_cons_zero, List.set_cons_succ, List.append_nil, List.nil_append, List.cons_append, c1]
    rfl
  | bad =>
    have c1 : cmpF .Eq (Fl.d .bad) (.tup [.str "cut"]) η = .ok (.bl false) η := by kernel_rfl
    have c2 : cmpF .Eq (Fl.d .bad) (.tup [.str "bad"]) η = .ok (.bl true) η := by kernel_rfl
    simp only [↓evD, evU, evV, frz_newN, Option.bind_some, Bool.not_true, Bool.not_false, Bool.and_true, Bool.and_self, decide_true, decide_false, sizeLine_eq, Int.reduceLE, Int.reduceLT, Int.reduceBEq, Int.reduceAdd, Int.reduceSub, Int.cast_ofNat_Int, Int.natCast_zero, Int.natCast_one, List.length_cons, List.length_nil, Nat.reduceLeDiff, Nat.reduceAdd, Nat.reduceEqDiff, List.getElem?_cons_zero, List.getElem?_cons_succ, List.set_cons_zero, List.set_cons_succ, List.append_nil, List.nil_append, List.cons_append, c1, c2]
    rfl
  | bit b =>
    have c1 : cmpF .Eq (.tup [.str "bit", .int (b : Int)]) (.tup [.str "cut"]) η = .ok (.bl false) η := by kernel_rfl
    have c2 : cmpF .Eq (.tup [.str "bit", .int (b : Int)]) (.tup [.str "bad"]) η = .ok (.bl false) η := by kernel_rfl
    have c9 : cmpF .NotEq (.str "bit") (.str "bit") η = .ok (.bl false) η := by kernel_rfl
    have cb : binF .Sub (.int 47) (.int 1) η = .ok (.int 46) η := by kernel_rfl
    have r : (decide ((0 : Int) ≤ (b : Int)) && decide ((b : Int) ≤ 46)) = fltB (.bit b) := by
      show _ = decide (b < 47)
      rw [decide_eq_true (by omega : (0 : Int) ≤ (b : Int)), Bool.true_and]
      exact decide_eq_decide.mpr (by omega)
    show sSeq _ _ [some (.tup [.str "bit", .int (b : Int)])] η = _
    simp only [↓evD, evU, evV, frz_newN, Option.bind_some, Bool.not_true, Bool.not_false, Bool.and_true, Bool.and_self, decide_true, decide_false, sizeLine_eq, Int.reduceLE, Int.reduceLT, Int.reduceBEq, Int.reduceAdd, Int.reduceSub, Int.cast_ofNat_Int, Int.natCast_zero, Int.natCast_one, List.length_cons, List.length_nil, Nat.reduceLeDiff, Nat.reduceAdd, Nat.reduceEqDiff, List.getElem?_cons_zero, List.getElem?_cons_succ, List.set_cons_zero, List.set_cons_succ, List.append_nil, List.nil_append, List.cons_append, gst_F, gst_B, c1, c2, c9, cb, within_int, r]
theorem rises_l {ks : List Int} (hl : ks.length ≤ sizeLine) : Q (n + 1) f_rises [.lst (ks.map .int)] η = .ok (.bl (risesB ks)) η := by
  rw [u_rises]
  refine fin_r ?_
  unfold m_rises
  simp only [↓evD, evU, evV, frz_newN, Option.bind_some, Bool.not_true, Bool.not_false, Bool.and_true, Bool.and_self, decide_true, decide_false, sizeLine_eq, Int.reduceLE, Int.reduceLT, Int.reduceBEq, Int.reduceAdd, Int.reduceSub, Int.cast_ofNat_Int, Int.natCast_zero, Int.natCast_one, List.length_cons, List.length_nil, Nat.reduceLeDiff, Nat.reduceAdd, Nat.reduceEqDiff, List.getElem?_cons_zero, List.getElem?_cons_succ, List.set_cons_zero, List.set_cons_succ, List.append_nil, List.nil_append, List.cons_append, gst_B]
  rw [compM (xs := ks.zip (ks.drop 1)) (e := fun p => .tup [.int p.1, .int p.2]) (f := fun q => .bl (decide (q.1 < q.2))) ?hi ?hs ?hb ?hp]
  case hi =>
    refine wk_zip rfl ?_
    have := frz_newN (xs := (ks.drop 1).map D.int) (η := η) (noRefs_map fun _ _ => rfl)
    simp only [↓evD, evU, evV, frz_newN, Option.bind_some, Bool.not_true, Bool.not_false, Bool.and_true, Bool.and_self, decide_true, decide_false, sizeLine_eq, Int.reduceLE, Int.reduceLT, Int.reduceBEq, Int.reduceAdd, Int.reduceSub, Int.cast_ofNat_Int, Int.natCast_zero, Int.natCast_one, List.length_cons, List.length_nil, Nat.reduceLeDiff, Nat.reduceAdd, Nat.reduceEqDiff, List.getElem?_cons_zero, List.getElem?_cons_succ, List.set_cons_zero, List.set_cons_succ, List.append_nil, List.nil_append, List.cons_append, slc_lst1, ← List.map_drop, this]
  case hs => rw [List.length_zip]; omega
  case hb =>
    intro q hq G
    refine ⟨_, gTupl_ rfl, ?_⟩
    simp only [↓evD, evU, evV, frz_newN, Option.bind_some, Bool.not_true, Bool.not_false, Bool.and_true, Bool.and_self, decide_true, decide_false, sizeLine_eq, Int.reduceLE, Int.reduceLT, Int.reduceBEq, Int.reduceAdd, Int.reduceSub, Int.cast_ofNat_Int, Int.natCast_zero, Int.natCast_one, List.length_cons, List.length_nil, Nat.reduceLeDiff, Nat.reduceAdd, Nat.reduceEqDiff, List.getElem?_cons_zero, List.getElem?_cons_succ, List.set_cons_zero, List.set_cons_succ, List.append_nil, List.nil_append, List.cons_append, wipeE]
  case hp => exact fun _ _ => rfl
  simp only [↓evD, evU, evV, frz_newN, Option.bind_some, Bool.not_true, Bool.not_false, Bool.and_true, Bool.and_self, decide_true, decide_false, sizeLine_eq, Int.reduceLE, Int.reduceLT, Int.reduceBEq, Int.reduceAdd, Int.reduceSub, Int.cast_ofNat_Int, Int.natCast_zero, Int.natCast_one, List.length_cons, List.length_nil, Nat.reduceLeDiff, Nat.reduceAdd, Nat.reduceEqDiff, List.getElem?_cons_zero, List.getElem?_cons_succ, List.set_cons_zero, List.set_cons_succ, List.append_nil, List.nil_append, List.cons_append, all_l]
  rfl
end Mi
end

section
set_option maxRecDepth 100000
set_option maxHeartbeats 4000000
/-! T2: weathers, numbers, rows, shapes. -/
noncomputable section
namespace Mi
open PySem En Tx
variable {n : Nat} {η : Hv}
theorem wlen {w : List (Nat × Fl)} : (w.map rowD).length = w.length := List.length_map ..
theorem is_weather_l {w : List (Nat × Fl)} : Q (n + 4) f_is_weather [wD w] η = .ok (.bl (wthB w)) η := by
  rw [u_is_weather]
  refine fin_r ?_
  unfold m_is_weather wD
  by_cases hl : w.length ≤ 40
  · have l40 : w.length ≤ sizeLine := by rw [sizeLine_eq]; omega
    have t3 : decide ((40 : Int) < (w.length : Int)) = false := decide_eq_false (by omega)
    simp only [↓evD, evU, evV, frz_newN, Option.bind_some, Bool.not_true, Bool.not_false, Bool.and_true, Bool.and_self, decide_true, decide_false, sizeLine_eq, Int.reduceLE, Int.reduceLT, Int.reduceBEq, Int.reduceAdd, Int.reduceSub, Int.cast_ofNat_Int, Int.natCast_zero, Int.natCast_one, List.length_cons, List.length_nil, Nat.reduceLeDiff, Nat.reduceAdd, Nat.reduceEqDiff, List.getElem?_cons_zero, List.getElem?_cons_succ, List.set_cons_zero, List.set_cons_succ, List.append_nil, List.nil_append, List.cons_append, gst_B, gst_F, wlen, t3]
    rw [compM (xs := w) (e := rowD) (f := fun _ => .bl true) ?hi l40 ?hb (fun _ _ => rfl)]
    case hi => exact wk_tup rfl rfl
    case hb =>
      intro r hr G
      refine ⟨_, rfl, ?_⟩
      unfold rowD
      simp only [↓evD, evU, evV, frz_newN, Option.bind_some, Bool.not_true, Bool.not_false, Bool.and_true, Bool.and_self, decide_true, decide_false, sizeLine_eq, Int.reduceLE, Int.reduceLT, Int.reduceBEq, Int.reduceAdd, Int.reduceSub, Int.cast_ofNat_Int, Int.natCast_zero, Int.natCast_one, List.length_cons, List.length_nil, Nat.reduceLeDiff, Nat.reduceAdd, Nat.reduceEqDiff, List.getElem?_cons_zero, List.getElem?_cons_succ, List.set_cons_zero, List.set_cons_succ, List.append_nil, List.nil_append, List.cons_append, wipeE]
    have al : (w.all fun _ => true) = true := List.all_eq_true.mpr fun _ _ => rfl
    simp only [↓evD, evU, evV, frz_newN, Option.bind_some, Bool.not_true, Bool.not_false, Bool.and_true, Bool.and_self, decide_true, decide_false, sizeLine_eq, Int.reduceLE, Int.reduceLT, Int.reduceBEq, Int.reduceAdd, Int.reduceSub, Int.cast_ofNat_Int, Int.natCast_zero, Int.natCast_one, List.length_cons, List.length_nil, Nat.reduceLeDiff, Nat.reduceAdd, Nat.reduceEqDiff, List.getElem?_cons_zero, List.getElem?_cons_succ, List.set_cons_zero, List.set_cons_succ, List.append_nil, List.nil_append, List.cons_append, gst_F, gst_B, all_l, al]
    rw [compM (xs := w) (e := rowD) (f := fun r => .bl (decide (r.1 ≤ 9999) && fltB r.2)) ?hi l40 ?hb (fun _ _ => rfl)]
    case hi => exact wk_tup rfl rfl
    case hb =>
      intro r hr G
      refine ⟨_, gTupl_ rfl, ?_⟩
      have z : (decide ((0 : Int) ≤ (r.1 : Int)) && decide ((r.1 : Int) ≤ 9999)) = decide (r.1 ≤ 9999) := by
        rw [decide_eq_true (by omega : (0 : Int) ≤ (r.1 : Int)), Bool.true_and]
        exact decide_eq_decide.mpr (by omega)
      cases h : decide (r.1 ≤ 9999) <;> simp only [↓evD, evU, evV, frz_newN, Option.bind_some, Bool.not_true, Bool.not_false, Bool.and_true, Bool.and_self, decide_true, decide_false, sizeLine_eq, Int.reduceLE, Int.reduceLT, Int.reduceBEq, Int.reduceAdd, Int.reduceSub, Int.cast_ofNat_Int, Int.natCast_zero, Int.natCast_one, List.length_cons, List.length_nil, Nat.reduceLeDiff, Nat.reduceAdd, Nat.reduceEqDiff, List.getElem?_cons_zero, List.getElem?_cons_succ, List.set_cons_zero, List.set_cons_succ, List.append_nil, List.nil_append, List.cons_append, wipeE, gst_F, within_int, z, h, fault_fl, Bool.true_and, Bool.false_and]
    cases ha : w.all fun r => decide (r.1 ≤ 9999) && fltB r.2 with
    | false =>
      simp only [↓evD, evU, evV, frz_newN, Option.bind_some, Bool.not_true, Bool.not_false, Bool.and_true, Bool.and_self, decide_true, decide_false, sizeLine_eq, Int.reduceLE, Int.reduceLT, Int.reduceBEq, Int.reduceAdd, Int.reduceSub, Int.cast_ofNat_Int, Int.natCast_zero, Int.natCast_one, List.length_cons, List.length_nil, Nat.reduceLeDiff, Nat.reduceAdd, Nat.reduceEqDiff, List.getElem?_cons_zero, List.getElem?_cons_succ, List.set_cons_zero, List.set_cons_succ, List.append_nil, List.nil_append, List.cons_append, gst_F, gst_B, all_l, ha]
      unfold wthB
      rw [ha, Bool.false_and, Bool.and_false]
    | true =>
      simp only [↓evD, evU, evV, frz_newN, Option.bind_some, Bool.not_true, Bool.not_false, Bool.and_true, Bool.and_self, decide_true, decide_false, sizeLine_eq, Int.reduceLE, Int.reduceLT, Int.reduceBEq, Int.reduceAdd, Int.reduceSub, Int.cast_ofNat_Int, Int.natCast_zero, Int.natCast_one, List.length_cons, List.length_nil, Nat.reduceLeDiff, Nat.reduceAdd, Nat.reduceEqDiff, List.getElem?_cons_zero, List.getElem?_cons_succ, List.set_cons_zero, List.set_cons_succ, List.append_nil, List.nil_append, List.cons_append, gst_F, gst_B, all_l, ha]
      rw [compM (xs := w) (e := rowD) (f := fun r => .int (r.1 : Int)) ?hi l40 ?hb (fun _ _ => rfl)]
      case hi => exact wk_tup rfl rfl
      case hb =>
        intro r hr G
        refine ⟨_, gTupl_ rfl, ?_⟩
        simp only [↓evD, evU, evV, frz_newN, Option.bind_some, Bool.not_true, Bool.not_false, Bool.and_true, Bool.and_self, decide_true, decide_false, sizeLine_eq, Int.reduceLE, Int.reduceLT, Int.reduceBEq, Int.reduceAdd, Int.reduceSub, Int.cast_ofNat_Int, Int.natCast_zero, Int.natCast_one, List.length_cons, List.length_nil, Nat.reduceLeDiff, Nat.reduceAdd, Nat.reduceEqDiff, List.getElem?_cons_zero, List.getElem?_cons_succ, List.set_cons_zero, List.set_cons_succ, List.append_nil, List.nil_append, List.cons_append, wipeE]
      have r3 := rises_l (n := n + 2) (η := η) (ks := w.map fun r => (r.1 : Int)) (by rw [List.length_map]; exact l40)
      rw [List.map_map] at r3
      have r3' : Q (n + 3) f_rises [.lst (w.map fun r => D.int (r.1 : Int))] η = _ := r3
      simp only [↓evD, evU, evV, frz_newN, Option.bind_some, Bool.not_true, Bool.not_false, Bool.and_true, Bool.and_self, decide_true, decide_false, sizeLine_eq, Int.reduceLE, Int.reduceLT, Int.reduceBEq, Int.reduceAdd, Int.reduceSub, Int.cast_ofNat_Int, Int.natCast_zero, Int.natCast_one, List.length_cons, List.length_nil, Nat.reduceLeDiff, Nat.reduceAdd, Nat.reduceEqDiff, List.getElem?_cons_zero, List.getElem?_cons_succ, List.set_cons_zero, List.set_cons_succ, List.append_nil, List.nil_append, List.cons_append, gst_F, r3']
      unfold wthB
      rw [ha, Bool.true_and, decide_eq_true hl, Bool.true_and]
  · have t3 : decide ((40 : Int) < (w.length : Int)) = true := decide_eq_true (by omega)
    simp only [↓evD, evU, evV, frz_newN, Option.bind_some, Bool.not_true, Bool.not_false, Bool.and_true, Bool.and_self, decide_true, decide_false, sizeLine_eq, Int.reduceLE, Int.reduceLT, Int.reduceBEq, Int.reduceAdd, Int.reduceSub, Int.cast_ofNat_Int, Int.natCast_zero, Int.natCast_one, List.length_cons, List.length_nil, Nat.reduceLeDiff, Nat.reduceAdd, Nat.reduceEqDiff, List.getElem?_cons_zero, List.getElem?_cons_succ, List.set_cons_zero, List.set_cons_succ, List.append_nil, List.nil_append, List.cons_append, gst_B, gst_F, wlen, t3]
    unfold wthB
    rw [decide_eq_false hl, Bool.false_and]
theorem need_weather_ok {w : List (Nat × Fl)} (h : WOk w) : Q (n + 5) f_need_weather [wD w] η = .ok .non η := by
  rw [u_need_weather]
  refine fin_n (env := [some (wD w)]) ?_
  unfold m_need_weather
  simp only [↓evD, evU, evV, frz_newN, Option.bind_some, Bool.not_true, Bool.not_false, Bool.and_true, Bool.and_self, decide_true, decide_false, sizeLine_eq, Int.reduceLE, Int.reduceLT, Int.reduceBEq, Int.reduceAdd, Int.reduceSub, Int.cast_ofNat_Int, Int.natCast_zero, Int.natCast_one, List.length_cons, List.length_nil, Nat.reduceLeDiff, Nat.reduceAdd, Nat.reduceEqDiff, List.getElem?_cons_zero, List.getElem?_cons_succ, List.set_cons_zero, List.set_cons_succ, List.append_nil, List.nil_append, List.cons_append, gst_F, is_weather_l, wthB_ok.mpr h]
/-! ### numbers -/
def oI : Option Nat → D
  | some k => .int (k : Int)
  | none => .non
theorem in_fig_no {c : Nat} (h : ¬ (48 ≤ c ∧ c ≤ 57)) (h2 : c < 128) : cmpF .In (.str ⟨#[c]⟩) (.str "0123456789") η = .ok (.bl false) η := by
  have all : ∀ c ∈ List.range 128, ¬ (48 ≤ c ∧ c ≤ 57) → (!(Builtin.Str.occurrences ("0123456789" : Str) ⟨#[c]⟩ 0 ("0123456789" : Str).length 1).isEmpty) = false := by decide +kernel
  show okB (id (!(Builtin.Str.occurrences ("0123456789" : Str) ⟨#[c]⟩ 0 ("0123456789" : Str).length 1).isEmpty)) η = _
  rw [all c (List.mem_range.mpr h2) h]
  rfl
theorem in_figB {c : Nat} (h2 : c < 128) : cmpF .In (.str ⟨#[c]⟩) (.str "0123456789") η = .ok (.bl (decide (48 ≤ c ∧ c ≤ 57))) η := by
  by_cases h : 48 ≤ c ∧ c ≤ 57
  · rw [in_fig h, decide_eq_true h]
  · rw [in_fig_no h h2, decide_eq_false h]
theorem len_s {s : Str} (h : s.length ≤ 1000000) : biH .len [.str s] η = .ok (.int s.length) η := by
  show (if s.length ≤ sizeLine then okI (s.length : Int) η else .bad) = _
  rw [if_pos (by rw [sizeLine_eq]; omega)]
  rfl
theorem six_s {s : Str} {c : Nat} (h : s.length ≤ 1000000) (j : Nat) (hc : s.cps.toList[j]? = some c) : sixD (.str s) (.int j) η = .ok (.str ⟨#[c]⟩) η := by
  show (if s.length ≤ sizeLine then (match L2.atI s.cps.toList (j : Int) with
      | some c => R.ok (D.str ⟨#[c]⟩) η
      | none => .bad) else .bad) = _
  rw [if_pos (by rw [sizeLine_eq]; omega), L2.atI_nat hc]
theorem asc_one {c : Nat} (h : c < 128) : asc ⟨#[c]⟩ = true := asc_of_cps.mpr fun x hx => by
  rw [List.mem_singleton.mp hx]
  exact h
theorem eq_s {x y : Str} (hx : asc x = true) (hy : asc y = true) : cmpF .Eq (.str x) (.str y) η = .ok (.bl (x == y)) η := eq_strs (asc_ok hx) (asc_ok hy)
theorem ne_s {x y : Str} (hx : asc x = true) (hy : asc y = true) : cmpF .NotEq (.str x) (.str y) η = .ok (.bl (!(x == y))) η := ne_strs (asc_ok hx) (asc_ok hy)
theorem beq_no {a b : Str} (h : a ≠ b) : (a == b) = false := beq_eq_false_iff_ne.mpr h
theorem int_nT {k : Nat} (hk : k < 1000000000) : biH .int [.str (nT k)] η = .ok (.int k) η := by
  have hr : PySem.intText? (nT k) = some (k : Int) := PySem.W.KIN.num_reads (by omega) (by omega)
  have hl := nT_len9 hk
  show (match PySem.intText? (nT k) with
    | some n => if (nT k).length ≤ 640 then okI n η else .bad
    | none => .bad) = _
  rw [hr]
  show (if (nT k).length ≤ 640 then okI (k : Int) η else .bad) = _
  rw [if_pos (by omega)]
  rfl
theorem number_in_s {s : Str} (ha : asc s = true) (hl : s.length ≤ 1000000) : Q (n + 1) f_number_in [.str s] η = .ok (oI (numIn s)) η := by
  have hc := asc_of_cps.mp ha
  rw [u_number_in]
  refine fin_r ?_
  unfold m_number_in
  have t1 : ∀ η : Hv, biH .len [.str s] η = .ok (.int s.length) η := fun η => len_s hl
  by_cases h1 : 1 ≤ s.length
  · have t2 : decide ((1 : Int) ≤ (s.length : Int)) = true := decide_eq_true (by omega)
    by_cases h9 : s.length ≤ 9
    · have t3 : decide ((s.length : Int) ≤ 9) = true := decide_eq_true (by omega)
      simp only [↓evD, evU, evV, frz_newN, Option.bind_some, Bool.not_true, Bool.not_false, Bool.and_true, Bool.and_self, decide_true, decide_false, sizeLine_eq, Int.reduceLE, Int.reduceLT, Int.reduceBEq, Int.reduceAdd, Int.reduceSub, Int.cast_ofNat_Int, Int.natCast_zero, Int.natCast_one, List.length_cons, List.length_nil, Nat.reduceLeDiff, Nat.reduceAdd, Nat.reduceEqDiff, List.getElem?_cons_zero, List.getElem?_cons_succ, List.set_cons_zero, List.set_cons_succ, List.append_nil, List.nil_append, List.cons_append, gst_B, t1, t2, t3]
      rw [compM (xs := s.cps.toList) (e := fun c => .str ⟨#[c]⟩) (f := fun c => .bl (decide (48 ≤ c ∧ c ≤ 57))) ?hi ?hs ?hb (fun _ _ => rfl)]
      case hi => exact wk_str rfl
      case hs => rw [← str_len, sizeLine_eq]; omega
      case hb =>
        intro c hcm G
        refine ⟨_, rfl, ?_⟩
        simp only [↓evD, evU, evV, frz_newN, Option.bind_some, Bool.not_true, Bool.not_false, Bool.and_true, Bool.and_self, decide_true, decide_false, sizeLine_eq, Int.reduceLE, Int.reduceLT, Int.reduceBEq, Int.reduceAdd, Int.reduceSub, Int.cast_ofNat_Int, Int.natCast_zero, Int.natCast_one, List.length_cons, List.length_nil, Nat.reduceLeDiff, Nat.reduceAdd, Nat.reduceEqDiff, List.getElem?_cons_zero, List.getElem?_cons_succ, List.set_cons_zero, List.set_cons_succ, List.append_nil, List.nil_append, List.cons_append, wipeE, in_figB (hc c hcm)]
      cases hd : s.cps.toList.all fun c => decide (48 ≤ c ∧ c ≤ 57) with
      | false =>
        simp only [↓evD, evU, evV, frz_newN, Option.bind_some, Bool.not_true, Bool.not_false, Bool.and_true, Bool.and_self, decide_true, decide_false, sizeLine_eq, Int.reduceLE, Int.reduceLT, Int.reduceBEq, Int.reduceAdd, Int.reduceSub, Int.cast_ofNat_Int, Int.natCast_zero, Int.natCast_one, List.length_cons, List.length_nil, Nat.reduceLeDiff, Nat.reduceAdd, Nat.reduceEqDiff, List.getElem?_cons_zero, List.getElem?_cons_succ, List.set_cons_zero, List.set_cons_succ, List.append_nil, List.nil_append, List.cons_append, gst_B, all_l, hd]
        rw [numIn_no fun k hk e => ?_]
        · rfl
        · rw [e] at hd
          have : ((nT k).cps.toList.all fun c => decide (48 ≤ c ∧ c ≤ 57)) = true := List.all_eq_true.mpr fun c hc => decide_eq_true (nT_digits k c hc)
          rw [this] at hd
          cases hd
      | true =>
        have hdig : ∀ c ∈ s.cps.toList, 48 ≤ c ∧ c ≤ 57 := fun c hc => of_decide_eq_true (List.all_eq_true.mp hd c hc)
        obtain ⟨c0, r0, hcr⟩ : ∃ c r, s.cps.toList = c :: r := List.exists_cons_of_ne_nil (by intro e; rw [str_len, e] at h1; cases h1)
        have hc0 : s.cps.toList[0]? = some c0 := by rw [hcr]; rfl
        have t6 : ∀ η : Hv, sixD (.str s) (.int 0) η = .ok (.str ⟨#[c0]⟩) η := fun η => six_s hl 0 hc0
        have t7 : ∀ η : Hv, cmpF .NotEq (.str ⟨#[c0]⟩) (.str "0") η = .ok (.bl (!((⟨#[c0]⟩ : Str) == "0"))) η := fun η => ne_s (asc_one (hc c0 (by rw [hcr]; exact List.mem_cons_self))) (by decide +kernel)
        have t8 : ∀ η : Hv, cmpF .Eq (.str s) (.str "0") η = .ok (.bl (s == "0")) η := fun η => eq_s ha (by decide +kernel)
        have z0 : ((⟨#[c0]⟩ : Str) == "0") = decide (c0 = 48) := by
          by_cases h : c0 = 48
          · rw [h]; decide +kernel
          · rw [decide_eq_false h]
            refine beq_no fun e => h ?_
            have e2 : (⟨#[c0]⟩ : Str) = ⟨#[48]⟩ := e.trans (by kernel_rfl)
            have := congrArg (fun s : Str => s.cps.toList) e2
            simpa using this
        by_cases hok : c0 ≠ 48 ∨ s.length = 1
        · obtain ⟨k, hk, e⟩ := numIn_dig h1 h9 hdig (by rw [hcr]; exact hok.imp (fun h e => h (by injection e)) id)
          have i1 : ∀ η : Hv, biH .int [.str s] η = .ok (.int k) η := fun η => by rw [e]; exact int_nT hk
          have e2 : numIn s = some k := by rw [e]; exact numIn_nT hk
          rw [e2]
          by_cases h48 : c0 = 48
          · have s0 : s = "0" := by
              have hl1 := hok.resolve_left (fun h => h h48)
              rw [str_len, hcr] at hl1
              have : r0 = [] := by simpa using hl1
              refine str_ext ?_
              rw [hcr, this, h48]
              decide +kernel
            have z8 : (s == "0") = true := by rw [s0]; decide +kernel
            simp only [↓evD, evU, evV, frz_newN, Option.bind_some, Bool.not_true, Bool.not_false, Bool.and_true, Bool.and_self, decide_true, decide_false, sizeLine_eq, Int.reduceLE, Int.reduceLT, Int.reduceBEq, Int.reduceAdd, Int.reduceSub, Int.cast_ofNat_Int, Int.natCast_zero, Int.natCast_one, List.length_cons, List.length_nil, Nat.reduceLeDiff, Nat.reduceAdd, Nat.reduceEqDiff, List.getElem?_cons_zero, List.getElem?_cons_succ, List.set_cons_zero, List.set_cons_succ, List.append_nil, List.nil_append, List.cons_append, gst_B, all_l, hd, t6, t7, z0, decide_eq_true h48, t8, z8, i1]
            rfl
          · simp only [↓evD, evU, evV, frz_newN, Option.bind_some, Bool.not_true, Bool.not_false, Bool.and_true, Bool.and_self, decide_true, decide_false, sizeLine_eq, Int.reduceLE, Int.reduceLT, Int.reduceBEq, Int.reduceAdd, Int.reduceSub, Int.cast_ofNat_Int, Int.natCast_zero, Int.natCast_one, List.length_cons, List.length_nil, Nat.reduceLeDiff, Nat.reduceAdd, Nat.reduceEqDiff, List.getElem?_cons_zero, List.getElem?_cons_succ, List.set_cons_zero, List.set_cons_succ, List.append_nil, List.nil_append, List.cons_append, gst_B, all_l, hd, t6, t7, z0, decide_eq_false h48, i1]
            rfl
        · have h48 : c0 = 48 := Classical.byContradiction fun h => hok (.inl h)
          have hne1 : s.length ≠ 1 := fun h => hok (.inr h)
          have s0 : s ≠ "0" := fun e => hne1 (by rw [e]; kernel_rfl)
          rw [numIn_no fun k hk e => ?_]
          · simp only [↓evD, evU, evV, frz_newN, Option.bind_some, Bool.not_true, Bool.not_false, Bool.and_true, Bool.and_self, decide_true, decide_false, sizeLine_eq, Int.reduceLE, Int.reduceLT, Int.reduceBEq, Int.reduceAdd, Int.reduceSub, Int.cast_ofNat_Int, Int.natCast_zero, Int.natCast_one, List.length_cons, List.length_nil, Nat.reduceLeDiff, Nat.reduceAdd, Nat.reduceEqDiff, List.getElem?_cons_zero, List.getElem?_cons_succ, List.set_cons_zero, List.set_cons_succ, List.append_nil, List.nil_append, List.cons_append, gst_B, all_l, hd, t6, t7, z0, decide_eq_true h48, t8, beq_no s0]
            rfl
          · rcases Nat.eq_zero_or_pos k with rfl | hp
            · exact s0 (e.trans nT_zero)
            · refine head_nT hp ?_
              rw [← e, hcr, h48]
              rfl
    · have t3 : decide ((s.length : Int) ≤ 9) = false := decide_eq_false (by omega)
      simp only [↓evD, evU, evV, frz_newN, Option.bind_some, Bool.not_true, Bool.not_false, Bool.and_true, Bool.and_self, decide_true, decide_false, sizeLine_eq, Int.reduceLE, Int.reduceLT, Int.reduceBEq, Int.reduceAdd, Int.reduceSub, Int.cast_ofNat_Int, Int.natCast_zero, Int.natCast_one, List.length_cons, List.length_nil, Nat.reduceLeDiff, Nat.reduceAdd, Nat.reduceEqDiff, List.getElem?_cons_zero, List.getElem?_cons_succ, List.set_cons_zero, List.set_cons_succ, List.append_nil, List.nil_append, List.cons_append, gst_B, t1, t2, t3]
      rw [numIn_no fun k hk e => h9 (by rw [e]; exact nT_len9 hk)]
      rfl
  · have t2 : decide ((1 : Int) ≤ (s.length : Int)) = false := decide_eq_false (by omega)
    simp only [↓evD, evU, evV, frz_newN, Option.bind_some, Bool.not_true, Bool.not_false, Bool.and_true, Bool.and_self, decide_true, decide_false, sizeLine_eq, Int.reduceLE, Int.reduceLT, Int.reduceBEq, Int.reduceAdd, Int.reduceSub, Int.cast_ofNat_Int, Int.natCast_zero, Int.natCast_one, List.length_cons, List.length_nil, Nat.reduceLeDiff, Nat.reduceAdd, Nat.reduceEqDiff, List.getElem?_cons_zero, List.getElem?_cons_succ, List.set_cons_zero, List.set_cons_succ, List.append_nil, List.nil_append, List.cons_append, gst_B, t1, t2]
    rw [numIn_no fun k hk e => h1 (by rw [e]; exact nT_pos k)]
    rfl
end Mi
end

section
set_option maxRecDepth 100000
set_option maxHeartbeats 4000000
/-! T3: rows, shapes, orders read. -/
noncomputable section
namespace Mi
open PySem En Tx
variable {n : Nat} {η : Hv}
def oL : Option (List Nat) → D
  | some ks => .tup (ks.map fun k : Nat => D.int k)
  | none => .non
def oO : Option Od → D
  | some o => o.d
  | none => .non
theorem pyL_oI {rf : Nat → Option PyData} : ∀ l : List (Option Nat), pyL rf (l.map oI) = some (l.map fun k => match k with | some k => PyData.int (k : Int) | none => PyData.none)
  | [] => rfl
  | k :: r => by
    show (match pyD rf (oI k), pyL rf (r.map oI) with
      | some x, some xs => some (x :: xs)
      | _, _ => none) = _
    rw [pyL_oI r]
    cases k <;> rfl
theorem lay_oI : ∀ l : List (Option Nat), PyData.canLayAll0 (l.map fun k => match k with | some k => PyData.int (k : Int) | none => PyData.none) = true
  | [] => rfl
  | k :: r => by cases k <;> exact lay_oI r
theorem depth_oI : ∀ l : List (Option Nat), PyData.depthAll (l.map fun k => match k with | some k => PyData.int (k : Int) | none => PyData.none) = 0
  | [] => rfl
  | k :: r => by
    cases k with
    | none =>
      show max 0 (PyData.depthAll (r.map _)) = 0
      rw [depth_oI r]
      rfl
    | some k =>
      show max 0 (PyData.depthAll (r.map _)) = 0
      rw [depth_oI r]
      rfl
theorem non_in_oI {l : List (Option Nat)} : cmpF .In .non (.lst (l.map oI)) η = .ok (.bl (l.any Option.isNone)) η := by
  have e : py η (.lst (l.map oI)) = some (.list (l.map fun k => match k with | some k => PyData.int (k : Int) | none => PyData.none)) := by
    show (pyL (pyR η 4) (l.map oI)).map _ = _
    rw [pyL_oI]
    rfl
  show (match py η D.non, py η (.lst (l.map oI)) with
    | some x, some (.list ys) => if SeqAt.shaped x && SeqAt.shaped (.list ys) then okB (id (ys.any fun z => PyData.eqv z x)) _ else .bad
    | some x, some (.tuple ys) => if SeqAt.shaped x && SeqAt.shaped (.tuple ys) then okB (id (ys.any fun z => PyData.eqv z x)) _ else .bad
    | _, _ => .bad) = _
  rw [e]
  show (if SeqAt.shaped .none && SeqAt.shaped (.list (l.map _)) then okB _ _ else .bad) = _
  rw [shaped_list (lay_oI l) (by rw [depth_oI]; omega)]
  show okB _ _ = _
  have : ((l.map fun k => match k with | some k => PyData.int (k : Int) | none => PyData.none).any fun z => PyData.eqv z .none) = l.any Option.isNone := by
    rw [List.any_map]
    congr 1
    funext k
    cases k <;> rfl
  rw [id, this]
  rfl
theorem nums_any : ∀ ws : List Str, (ws.map numIn).any Option.isNone = (numsIn ws).isNone
  | [] => rfl
  | w :: r => by
    rw [List.map_cons, List.any_cons, nums_any r]
    cases q1 : numIn w with
    | none => rw [numsIn_none (.inl q1)]; rfl
    | some k =>
      cases q2 : numsIn r with
      | none => rw [numsIn_none (.inr q2)]; rfl
      | some ks => rw [numsIn_cons q1 q2]; rfl
theorem nums_map {ws : List Str} {ks : List Nat} (h : numsIn ws = some ks) : (ws.map fun w => oI (numIn w)) = ks.map fun k : Nat => D.int k := by
  obtain ⟨h1, h2⟩ := numsIn_some h
  rw [h1, List.map_map]
  refine List.map_congr_left fun k hk => ?_
  show oI (numIn (nT k)) = _
  rw [numIn_nT (h2 k hk)]
  rfl
theorem numbers_in_l {ws : List Str} (ha : ∀ w ∈ ws, asc w = true) (hl : ∀ w ∈ ws, w.length ≤ 1000000) (hn : ws.length ≤ 1000000) : Q (n + 2) f_numbers_in [.lst (ws.map D.str)] η = .ok (oL (numsIn ws)) η := by
  rw [u_numbers_in]
  refine fin_r ?_
  unfold m_numbers_in
  simp only [↓evD, evU, evV, frz_newN, Option.bind_some, Bool.not_true, Bool.not_false, Bool.and_true, Bool.and_self, decide_true, decide_false, sizeLine_eq, Int.reduceLE, Int.reduceLT, Int.reduceBEq, Int.reduceAdd, Int.reduceSub, Int.cast_ofNat_Int, Int.natCast_zero, Int.natCast_one, List.length_cons, List.length_nil, Nat.reduceLeDiff, Nat.reduceAdd, Nat.reduceEqDiff, List.getElem?_cons_zero, List.getElem?_cons_succ, List.set_cons_zero, List.set_cons_succ, List.append_nil, List.nil_append, List.cons_append, gst_B, gst_F]
  rw [compM (xs := ws) (e := D.str) (f := fun w => oI (numIn w)) ?hi ?hs ?hb (fun w _ => by cases numIn w <;> rfl)]
  case hi => exact wk_lst rfl rfl
  case hs => rw [sizeLine_eq]; omega
  case hb =>
    intro w hw G
    refine ⟨_, rfl, ?_⟩
    simp only [↓evD, evU, evV, frz_newN, Option.bind_some, Bool.not_true, Bool.not_false, Bool.and_true, Bool.and_self, decide_true, decide_false, sizeLine_eq, Int.reduceLE, Int.reduceLT, Int.reduceBEq, Int.reduceAdd, Int.reduceSub, Int.cast_ofNat_Int, Int.natCast_zero, Int.natCast_one, List.length_cons, List.length_nil, Nat.reduceLeDiff, Nat.reduceAdd, Nat.reduceEqDiff, List.getElem?_cons_zero, List.getElem?_cons_succ, List.set_cons_zero, List.set_cons_succ, List.append_nil, List.nil_append, List.cons_append, wipeE, gst_F, number_in_s (ha w hw) (hl w hw)]
  have c1 : cmpF .In .non (.lst (ws.map fun w => oI (numIn w))) η = .ok (.bl (numsIn ws).isNone) η := by
    have := non_in_oI (η := η) (l := ws.map numIn)
    rw [List.map_map, nums_any] at this
    exact this
  cases q : numsIn ws with
  | none =>
    rw [q] at c1
    simp only [↓evD, evU, evV, frz_newN, Option.bind_some, Bool.not_true, Bool.not_false, Bool.and_true, Bool.and_self, decide_true, decide_false, sizeLine_eq, Int.reduceLE, Int.reduceLT, Int.reduceBEq, Int.reduceAdd, Int.reduceSub, Int.cast_ofNat_Int, Int.natCast_zero, Int.natCast_one, List.length_cons, List.length_nil, Nat.reduceLeDiff, Nat.reduceAdd, Nat.reduceEqDiff, List.getElem?_cons_zero, List.getElem?_cons_succ, List.set_cons_zero, List.set_cons_succ, List.append_nil, List.nil_append, List.cons_append, gst_B, c1, Option.isNone_none]
    rfl
  | some ks =>
    rw [q] at c1
    simp only [↓evD, evU, evV, frz_newN, Option.bind_some, Bool.not_true, Bool.not_false, Bool.and_true, Bool.and_self, decide_true, decide_false, sizeLine_eq, Int.reduceLE, Int.reduceLT, Int.reduceBEq, Int.reduceAdd, Int.reduceSub, Int.cast_ofNat_Int, Int.natCast_zero, Int.natCast_one, List.length_cons, List.length_nil, Nat.reduceLeDiff, Nat.reduceAdd, Nat.reduceEqDiff, List.getElem?_cons_zero, List.getElem?_cons_succ, List.set_cons_zero, List.set_cons_succ, List.append_nil, List.nil_append, List.cons_append, gst_B, c1, Option.isNone_some]
    rw [nums_map q]
    rfl
/-! ### rows -/
def rowB (r : Nat × Nat) : Bool := decide (r.1 < 16) && decide (r.2 < 64)
theorem row_pr {r : Nat × Nat} : Q (n + 4) f_is_row [prD r] η = .ok (.bl (rowB r)) η := by
  unfold prD
  rw [row_ints]
  unfold rowB
  rw [decide_eq_true (by omega : (0 : Int) ≤ (r.1 : Int)), decide_eq_true (by omega : (0 : Int) ≤ (r.2 : Int)), Bool.true_and, Bool.true_and, decide_eq_decide.mpr (by omega : ((r.1 : Int) ≤ 15) ↔ r.1 < 16), decide_eq_decide.mpr (by omega : ((r.2 : Int) ≤ 63) ↔ r.2 < 64)]
theorem plen {rows : List (Nat × Nat)} : (rows.map prD).length = rows.length := List.length_map ..
/-- how many unlike ints there are -/
def setL (xs : List Int) : List Int := xs.foldl (fun S j => if S.contains j then S else j :: S) []
theorem lenSet_gen {α : Type} {own : List Nat} {i : Iex} {g : Tgt} {m : Exp} {env : Ev} {η : Hv} {xs : List α} {e : α → D} (f : α → Int) (hi : WkOk i env η xs e) (hb : ∀ x ∈ xs, ∃ e1, g (e x) (wipeE env own) η = .ok e1 η ∧ m e1 η = .ok (.int (f x)) η) (hl : xs.length < 4000) : xLenSet own i g tYesB m env η = .ok (.int (setL (xs.map f)).length) η := by
  obtain ⟨it, h1, h2⟩ := hi
  have main : ∀ (r : List α) (k fuel : Nat) (S : List Int), r.length ≤ fuel → xs.drop k = r → S.length ≤ k → setN it g tYesB m (wipeE env own) (fuel + 1) k S η = .ok ((r.map f).foldl (fun S j => if S.contains j then S else j :: S) S) η := by
    intro r
    induction r with
    | nil =>
      intro k fuel S hf hk hS
      have hlen : xs.length ≤ k := List.drop_eq_nil_iff.mp hk
      unfold setN
      rw [nx_app h2, List.getElem?_eq_none hlen]
      rfl
    | cons x r ih =>
      intro k fuel S hf hk hS
      obtain ⟨fuel, rfl⟩ : ∃ m, fuel = m + 1 := ⟨fuel - 1, by rw [List.length_cons] at hf; omega⟩
      rw [List.length_cons] at hf
      have hx : xs[k]? = some x := by
        have := congrArg List.head? hk
        rwa [List.head?_drop] at this
      have hlt := (List.getElem?_eq_some_iff.mp hx).1
      have hdr : xs.drop (k + 1) = r := by
        rw [← List.drop_drop, hk]
        rfl
      obtain ⟨e1, b1, b2⟩ := hb x (List.mem_of_getElem? hx)
      unfold setN
      rw [nx_app h2, hx]
      dsimp only [Option.map_some]
      rw [b1]
      dsimp only [R.bind]
      rw [tyes]
      dsimp only
      rw [if_pos rfl, b2]
      dsimp only
      rw [if_pos (by omega)]
      rw [ih (k + 1) fuel (if S.contains (f x) then S else f x :: S) (by omega) hdr (by split; omega; rw [List.length_cons]; omega)]
      rfl
  unfold xLenSet
  rw [h1]
  show (noExc (setN it g tYesB m (wipeE env own) (sizeI it η + 1) 0 [] η)).bind _ = _
  rw [main xs 0 (sizeI it η) [] (h2.2 η) rfl (Nat.le_refl _)]
  rfl
theorem fold_len : ∀ (xs : List Int) (S : List Int), S.Nodup → ((xs.foldl (fun S j => if S.contains j then S else j :: S) S).length ≤ S.length + xs.length) ∧ ((xs.foldl (fun S j => if S.contains j then S else j :: S) S).length = S.length + xs.length ↔ (xs.Nodup ∧ ∀ x ∈ xs, x ∉ S))
  | [], S, _ => ⟨Nat.le_refl _, ⟨fun _ => ⟨List.nodup_nil, fun x h => by cases h⟩, fun _ => rfl⟩⟩
  | x :: r, S, hS => by
    rw [List.foldl_cons, List.length_cons]
    by_cases hx : x ∈ S
    · have hc : S.contains x = true := List.contains_iff_mem.mpr hx
      rw [if_pos hc]
      obtain ⟨h1, h2⟩ := fold_len r S hS
      refine ⟨by omega, ⟨fun h => by omega, fun h => ((h.2 x List.mem_cons_self) hx).elim⟩⟩
    · have hc : ¬ S.contains x = true := fun h => hx (List.contains_iff_mem.mp h)
      rw [if_neg hc]
      obtain ⟨h1, h2⟩ := fold_len r (x :: S) (List.nodup_cons.mpr ⟨hx, hS⟩)
      rw [List.length_cons] at h1 h2
      refine ⟨by omega, ⟨fun h => ?_, fun h => ?_⟩⟩
      · obtain ⟨h3, h4⟩ := h2.mp (by omega)
        refine ⟨List.nodup_cons.mpr ⟨fun hm => h4 x hm List.mem_cons_self, h3⟩, fun y hy => ?_⟩
        rcases List.mem_cons.mp hy with rfl | hy
        · exact hx
        · exact fun hm => h4 y hy (List.mem_cons_of_mem _ hm)
      · obtain ⟨h3, h4⟩ := h
        obtain ⟨h5, h6⟩ := List.nodup_cons.mp h3
        have := h2.mpr ⟨h6, fun y hy hm => by
          rcases List.mem_cons.mp hm with rfl | hm
          · exact h5 hy
          · exact h4 y (List.mem_cons_of_mem _ hy) hm⟩
        omega
theorem setL_len (xs : List Int) : (setL xs).length ≤ xs.length ∧ ((setL xs).length = xs.length ↔ xs.Nodup) := by
  obtain ⟨h1, h2⟩ := fold_len xs [] List.nodup_nil
  rw [List.length_nil, Nat.zero_add] at h1 h2
  exact ⟨h1, h2.trans ⟨fun h => h.1, fun h => ⟨h, fun _ _ hm => by cases hm⟩⟩⟩
theorem nodup_cast {xs : List Nat} : (xs.map fun k : Nat => (k : Int)).Nodup ↔ xs.Nodup := by
  constructor
  · intro h
    exact (List.pairwise_map.mp h).imp fun hab e => hab (by rw [e])
  · intro h
    exact List.pairwise_map.mpr (h.imp fun hab e => hab (by exact_mod_cast e))
theorem are_rows_l {rows : List (Nat × Nat)} : Q (n + 5) f_are_rows [.tup (rows.map prD)] η = .ok (.bl (rowsB rows)) η := by
  rw [u_are_rows]
  refine fin_r ?_
  unfold m_are_rows
  by_cases h1 : 1 ≤ rows.length
  · have t2 : decide ((1 : Int) ≤ (rows.length : Int)) = true := decide_eq_true (by omega)
    by_cases h4 : rows.length ≤ 4
    · have t3 : decide ((rows.length : Int) ≤ 4) = true := decide_eq_true (by omega)
      simp only [↓evD, evU, evV, frz_newN, Option.bind_some, Bool.not_true, Bool.not_false, Bool.and_true, Bool.and_self, decide_true, decide_false, sizeLine_eq, Int.reduceLE, Int.reduceLT, Int.reduceBEq, Int.reduceAdd, Int.reduceSub, Int.cast_ofNat_Int, Int.natCast_zero, Int.natCast_one, List.length_cons, List.length_nil, Nat.reduceLeDiff, Nat.reduceAdd, Nat.reduceEqDiff, List.getElem?_cons_zero, List.getElem?_cons_succ, List.set_cons_zero, List.set_cons_succ, List.append_nil, List.nil_append, List.cons_append, gst_B, gst_F, plen, t2, t3]
      rw [compM (xs := rows) (e := prD) (f := fun r => .bl (rowB r)) ?hi ?hs ?hb (fun _ _ => rfl)]
      case hi => exact wk_tup rfl rfl
      case hs => rw [sizeLine_eq]; omega
      case hb =>
        intro r hr G
        refine ⟨_, rfl, ?_⟩
        simp only [↓evD, evU, evV, frz_newN, Option.bind_some, Bool.not_true, Bool.not_false, Bool.and_true, Bool.and_self, decide_true, decide_false, sizeLine_eq, Int.reduceLE, Int.reduceLT, Int.reduceBEq, Int.reduceAdd, Int.reduceSub, Int.cast_ofNat_Int, Int.natCast_zero, Int.natCast_one, List.length_cons, List.length_nil, Nat.reduceLeDiff, Nat.reduceAdd, Nat.reduceEqDiff, List.getElem?_cons_zero, List.getElem?_cons_succ, List.set_cons_zero, List.set_cons_succ, List.append_nil, List.nil_append, List.cons_append, wipeE, gst_F, row_pr]
      cases ha : rows.all rowB with
      | false =>
        simp only [↓evD, evU, evV, frz_newN, Option.bind_some, Bool.not_true, Bool.not_false, Bool.and_true, Bool.and_self, decide_true, decide_false, sizeLine_eq, Int.reduceLE, Int.reduceLT, Int.reduceBEq, Int.reduceAdd, Int.reduceSub, Int.cast_ofNat_Int, Int.natCast_zero, Int.natCast_one, List.length_cons, List.length_nil, Nat.reduceLeDiff, Nat.reduceAdd, Nat.reduceEqDiff, List.getElem?_cons_zero, List.getElem?_cons_succ, List.set_cons_zero, List.set_cons_succ, List.append_nil, List.nil_append, List.cons_append, gst_B, all_l, ha]
        unfold rowsB
        rw [show (rows.all fun r => decide (r.1 < 16) && decide (r.2 < 64)) = false from ha, Bool.false_and, Bool.and_false, Bool.and_false]
      | true =>
        simp only [↓evD, evU, evV, frz_newN, Option.bind_some, Bool.not_true, Bool.not_false, Bool.and_true, Bool.and_self, decide_true, decide_false, sizeLine_eq, Int.reduceLE, Int.reduceLT, Int.reduceBEq, Int.reduceAdd, Int.reduceSub, Int.cast_ofNat_Int, Int.natCast_zero, Int.natCast_one, List.length_cons, List.length_nil, Nat.reduceLeDiff, Nat.reduceAdd, Nat.reduceEqDiff, List.getElem?_cons_zero, List.getElem?_cons_succ, List.set_cons_zero, List.set_cons_succ, List.append_nil, List.nil_append, List.cons_append, gst_B, all_l, ha]
        rw [lenSet_gen (xs := rows) (e := prD) (fun r => (r.1 : Int)) ?hi ?hb ?hl]
        case hi => exact wk_tup rfl rfl
        case hb =>
          intro r hr
          refine ⟨_, gTupl_ rfl, ?_⟩
          simp only [↓evD, evU, evV, frz_newN, Option.bind_some, Bool.not_true, Bool.not_false, Bool.and_true, Bool.and_self, decide_true, decide_false, sizeLine_eq, Int.reduceLE, Int.reduceLT, Int.reduceBEq, Int.reduceAdd, Int.reduceSub, Int.cast_ofNat_Int, Int.natCast_zero, Int.natCast_one, List.length_cons, List.length_nil, Nat.reduceLeDiff, Nat.reduceAdd, Nat.reduceEqDiff, List.getElem?_cons_zero, List.getElem?_cons_succ, List.set_cons_zero, List.set_cons_succ, List.append_nil, List.nil_append, List.cons_append, wipeE]
        case hl => omega
        simp only [↓evD, evU, evV, frz_newN, Option.bind_some, Bool.not_true, Bool.not_false, Bool.and_true, Bool.and_self, decide_true, decide_false, sizeLine_eq, Int.reduceLE, Int.reduceLT, Int.reduceBEq, Int.reduceAdd, Int.reduceSub, Int.cast_ofNat_Int, Int.natCast_zero, Int.natCast_one, List.length_cons, List.length_nil, Nat.reduceLeDiff, Nat.reduceAdd, Nat.reduceEqDiff, List.getElem?_cons_zero, List.getElem?_cons_succ, List.set_cons_zero, List.set_cons_succ, List.append_nil, List.nil_append, List.cons_append, gst_B, plen]
        unfold rowsB
        rw [show (rows.all fun r => decide (r.1 < 16) && decide (r.2 < 64)) = true from ha, decide_eq_true h1, decide_eq_true h4, Bool.true_and, Bool.true_and, Bool.true_and]
        congr 2
        obtain ⟨l1, l2⟩ := setL_len (rows.map fun r => (r.1 : Int))
        rw [List.length_map] at l1 l2
        have nd : (rows.map fun r => (r.1 : Int)).Nodup ↔ (rows.map (·.1)).Nodup := by
          have := nodup_cast (xs := rows.map (·.1))
          rw [List.map_map] at this
          exact this
        by_cases h : (rows.map (·.1)).Nodup
        · rw [decide_eq_true h, l2.mpr (nd.mpr h)]
          exact beq_self_eq_true _
        · rw [decide_eq_false h]
          refine beq_eq_false_iff_ne.mpr fun e => h (nd.mp (l2.mp (by omega)))
    · have t3 : decide ((rows.length : Int) ≤ 4) = false := decide_eq_false (by omega)
      simp only [↓evD, evU, evV, frz_newN, Option.bind_some, Bool.not_true, Bool.not_false, Bool.and_true, Bool.and_self, decide_true, decide_false, sizeLine_eq, Int.reduceLE, Int.reduceLT, Int.reduceBEq, Int.reduceAdd, Int.reduceSub, Int.cast_ofNat_Int, Int.natCast_zero, Int.natCast_one, List.length_cons, List.length_nil, Nat.reduceLeDiff, Nat.reduceAdd, Nat.reduceEqDiff, List.getElem?_cons_zero, List.getElem?_cons_succ, List.set_cons_zero, List.set_cons_succ, List.append_nil, List.nil_append, List.cons_append, gst_B, gst_F, plen, t2, t3]
      unfold rowsB
      rw [decide_eq_false h4, Bool.false_and, Bool.and_false]
  · have t2 : decide ((1 : Int) ≤ (rows.length : Int)) = false := decide_eq_false (by omega)
    simp only [↓evD, evU, evV, frz_newN, Option.bind_some, Bool.not_true, Bool.not_false, Bool.and_true, Bool.and_self, decide_true, decide_false, sizeLine_eq, Int.reduceLE, Int.reduceLT, Int.reduceBEq, Int.reduceAdd, Int.reduceSub, Int.cast_ofNat_Int, Int.natCast_zero, Int.natCast_one, List.length_cons, List.length_nil, Nat.reduceLeDiff, Nat.reduceAdd, Nat.reduceEqDiff, List.getElem?_cons_zero, List.getElem?_cons_succ, List.set_cons_zero, List.set_cons_succ, List.append_nil, List.nil_append, List.cons_append, gst_B, gst_F, plen, t2]
    unfold rowsB
    rw [decide_eq_false h1, Bool.false_and]
end Mi
end

section
set_option maxRecDepth 100000
set_option maxHeartbeats 4000000
/-! T4: shapes, orders read. -/
noncomputable section
namespace Mi
open PySem En Tx
variable {n : Nat} {η : Hv}
def nsD (ks : List Nat) : List D := ks.map fun k : Nat => D.int k
theorem nsD_nr {ks : List Nat} : noRefs (nsD ks) = true := noRefs_map fun _ _ => rfl
theorem nsD_len {ks : List Nat} : (nsD ks).length = ks.length := List.length_map ..
theorem py_ns (ks : List Nat) {rf : Nat → Option PyData} : pyL rf (nsD ks) = some (ks.map fun k : Nat => PyData.int k) := pyL_ints (f := fun k : Nat => (k : Int))
theorem shaped_s {w : Str} (ha : asc w = true) : SeqAt.shaped (.str w) = true := by
  show (PyData.strOk w && _) = true
  rw [asc_ok ha]
  rfl
theorem shaped_wns {w : Str} {ks : List Nat} (ha : asc w = true) : SeqAt.shaped (.tuple (.str w :: ks.map fun k : Nat => PyData.int k)) = true := shaped_tup (by
  show (PyData.strOk w && PyData.canLayAll0 (ks.map fun k : Nat => PyData.int ((k : Int)))) = true
  rw [asc_ok ha, lay_ints (f := fun k : Nat => (k : Int))]
  rfl) (by
  show max 0 (PyData.depthAll (ks.map fun k : Nat => PyData.int ((k : Int)))) ≤ 60
  rw [depth_ints (f := fun k : Nat => (k : Int))]
  omega)
theorem wns_ne {w : Str} {ks : List Nat} (ha : asc w = true) : cmpF .Eq (.tup (.str w :: nsD ks)) (.tup []) η = .ok (.bl false) η := by
  have e : py η (.tup (.str w :: nsD ks)) = some (.tuple (.str w :: ks.map fun k : Nat => PyData.int k)) := by
    show (match some (PyData.str w), pyL (pyR η 4) (nsD ks) with
      | some x, some xs => some (x :: xs)
      | _, _ => none).map _ = _
    rw [py_ns]
    rfl
  show eqB _ _ _ id = _
  unfold eqB
  rw [e]
  show (if SeqAt.shaped (.tuple (.str w :: ks.map fun k : Nat => PyData.int k)) && SeqAt.shaped (.tuple []) then okB _ _ else .bad) = _
  rw [shaped_wns ha]
  rfl
theorem ns_nil {ks : List Nat} : cmpF .Eq (.lst (nsD ks)) (.lst []) η = .ok (.bl ks.isEmpty) η := by
  have e : py η (.lst (nsD ks)) = some (.list (ks.map fun k : Nat => PyData.int k)) := by
    show (pyL (pyR η 4) (nsD ks)).map _ = _
    rw [py_ns]
    rfl
  show eqB _ _ _ id = _
  unfold eqB
  rw [e]
  show (if SeqAt.shaped (.list (ks.map fun k : Nat => PyData.int ((k : Int)))) && SeqAt.shaped (.list []) then okB _ _ else .bad) = _
  rw [shaped_list (lay_ints (f := fun k : Nat => (k : Int))) (by rw [depth_ints (f := fun k : Nat => (k : Int))]; omega)]
  cases ks <;> rfl
theorem in_two {w a b : Str} (ha : asc w = true) (h1 : asc a = true) (h2 : asc b = true) : cmpF .In (.str w) (.tup [.str a, .str b]) η = .ok (.bl (w == a || w == b)) η := by
  have sh : SeqAt.shaped (.tuple [.str a, .str b]) = true := shaped_tup (by
    show (PyData.strOk a && (PyData.strOk b && true)) = true
    rw [asc_ok h1, asc_ok h2]
    rfl) (by show 0 ≤ 60; omega)
  show (if SeqAt.shaped (.str w) && SeqAt.shaped (.tuple [.str a, .str b]) then okB (id ([PyData.str a, .str b].any fun z => PyData.eqv z (.str w))) η else .bad) = _
  rw [shaped_s ha, sh]
  show R.ok (D.bl ([PyData.str a, .str b].any fun z => PyData.eqv z (.str w))) η = _
  have : ([PyData.str a, .str b].any fun z => PyData.eqv z (.str w)) = (w == a || w == b) := by
    show ((a == w) || ((b == w) || false)) = _
    rw [Bool.or_false, Bool.beq_comm (a := a), Bool.beq_comm (a := b)]
  rw [this]
theorem row_ns {ks : List Nat} : Q (n + 4) f_is_row [.tup (nsD ks)] η = .ok (.bl (match ks with | [p, d] => rowB (p, d) | _ => false)) η := by
  match ks with
  | [p, d] => exact row_pr (r := (p, d))
  | [] => exact row_len (by decide)
  | [_] => exact row_len (by show 1 ≠ 2; omega)
  | _ :: _ :: _ :: _ => exact row_len (by rw [nsD_len]; simp)
theorem shape_w {w : Str} {ks : List Nat} (ha : asc w = true) (hw : w ≠ "group") (hl : ks.length ≤ 10000) : Q (n + 6) f_has_shape [.tup (.str w :: nsD ks)] η = .ok (.bl (ordF w ks).isSome) η := by
  rw [u_has_shape]
  refine fin_r ?_
  unfold m_has_shape
  have z : decide ((nsD ks).length ≤ 16000) = true := decide_eq_true (by rw [nsD_len]; omega)
  have c1 : ∀ η : Hv, cmpF .Eq (.str w) (.str "mend") η = .ok (.bl (w == "mend")) η := fun η => eq_s ha (by decide +kernel)
  have c2 : ∀ η : Hv, cmpF .Eq (.str w) (.str "write") η = .ok (.bl (w == "write")) η := fun η => eq_s ha (by decide +kernel)
  have c3 : ∀ η : Hv, cmpF .Eq (.str w) (.str "group") η = .ok (.bl false) η := fun η => by rw [eq_s ha (by decide +kernel), beq_no hw]
  unfold ordF
  by_cases h1 : w = "mend"
  · rw [if_pos h1]
    have z1 : (w == "mend") = true := by rw [h1]; decide +kernel
    simp only [↓evD, evU, evV, frz_newN, Option.bind_some, Bool.not_true, Bool.not_false, Bool.and_true, Bool.and_self, decide_true, decide_false, sizeLine_eq, Int.reduceLE, Int.reduceLT, Int.reduceBEq, Int.reduceAdd, Int.reduceSub, Int.cast_ofNat_Int, Int.natCast_zero, Int.natCast_one, List.length_cons, List.length_nil, Nat.reduceLeDiff, Nat.reduceAdd, Nat.reduceEqDiff, List.getElem?_cons_zero, List.getElem?_cons_succ, List.set_cons_zero, List.set_cons_succ, List.append_nil, List.nil_append, List.cons_append, wns_ne ha, z, c1, z1, ns_nil]
    cases ks <;> rfl
  · rw [if_neg h1]
    by_cases h2 : w = "write"
    · rw [if_pos h2]
      have z2 : (w == "write") = true := by rw [h2]; decide +kernel
      simp only [↓evD, evU, evV, frz_newN, Option.bind_some, Bool.not_true, Bool.not_false, Bool.and_true, Bool.and_self, decide_true, decide_false, sizeLine_eq, Int.reduceLE, Int.reduceLT, Int.reduceBEq, Int.reduceAdd, Int.reduceSub, Int.cast_ofNat_Int, Int.natCast_zero, Int.natCast_one, List.length_cons, List.length_nil, Nat.reduceLeDiff, Nat.reduceAdd, Nat.reduceEqDiff, List.getElem?_cons_zero, List.getElem?_cons_succ, List.set_cons_zero, List.set_cons_succ, List.append_nil, List.nil_append, List.cons_append, gst_F, wns_ne ha, z, c1, beq_no h1, c2, z2, slc_tup1, List.drop_succ_cons, List.drop_zero, row_ns]
      match ks with
      | [p, d] =>
        show RS.ret (D.bl (decide (p < 16) && decide (d < 64))) η = RS.ret (D.bl (if p < 16 ∧ d < 64 then some (Od.write p d) else none).isSome) η
        by_cases h : p < 16 ∧ d < 64
        · rw [if_pos h, decide_eq_true h.1, decide_eq_true h.2]; rfl
        · rw [if_neg h, ← Bool.decide_and, decide_eq_false h]; rfl
      | [] => rfl
      | [_] => rfl
      | _ :: _ :: _ :: _ => rfl
    · rw [if_neg h2, if_neg hw]
      match ks with
      | [p] =>
        have c4 : ∀ η : Hv, cmpF .In (.str w) (.tup [.str "read", .str "trim"]) η = .ok (.bl (w == "read" || w == "trim")) η := fun η => in_two ha (by decide +kernel) (by decide +kernel)
        have pb : (decide ((0 : Int) ≤ (p : Int)) && decide ((p : Int) ≤ 15)) = decide (p < 16) := by
          rw [decide_eq_true (by omega : (0 : Int) ≤ (p : Int)), Bool.true_and]
          exact decide_eq_decide.mpr (by omega)
        have e0 : cmpF .Eq (.tup [.str w, .int (p : Int)]) (.tup []) η = .ok (.bl false) η := wns_ne (η := η) (ks := [p]) ha
        have z : decide (([D.int (p : Int)] : List D).length ≤ 16000) = true := rfl
        show sSeq _ _ [some (.tup [.str w, .int (p : Int)]), none, none] η = _
        by_cases h3 : w = "read"
        · have z3 : (w == "read" || w == "trim") = true := by rw [h3]; decide +kernel
          simp only [↓evD, evU, evV, frz_newN, Option.bind_some, Bool.not_true, Bool.not_false, Bool.and_true, Bool.and_self, decide_true, decide_false, sizeLine_eq, Int.reduceLE, Int.reduceLT, Int.reduceBEq, Int.reduceAdd, Int.reduceSub, Int.cast_ofNat_Int, Int.natCast_zero, Int.natCast_one, List.length_cons, List.length_nil, Nat.reduceLeDiff, Nat.reduceAdd, Nat.reduceEqDiff, List.getElem?_cons_zero, List.getElem?_cons_succ, List.set_cons_zero, List.set_cons_succ, List.append_nil, List.nil_append, List.cons_append, gst_F, gst_B, e0, c1, beq_no h1, c2, beq_no h2, c3, c4, z3, place_int, pb]
          rw [if_pos h3]
          show _ = RS.ret (D.bl (if p < 16 then some (Od.read p) else none).isSome) η
          by_cases h : p < 16
          · rw [if_pos h, decide_eq_true h]; rfl
          · rw [if_neg h, decide_eq_false h]; rfl
        · by_cases h4 : w = "trim"
          · have z3 : (w == "read" || w == "trim") = true := by rw [h4]; decide +kernel
            simp only [↓evD, evU, evV, frz_newN, Option.bind_some, Bool.not_true, Bool.not_false, Bool.and_true, Bool.and_self, decide_true, decide_false, sizeLine_eq, Int.reduceLE, Int.reduceLT, Int.reduceBEq, Int.reduceAdd, Int.reduceSub, Int.cast_ofNat_Int, Int.natCast_zero, Int.natCast_one, List.length_cons, List.length_nil, Nat.reduceLeDiff, Nat.reduceAdd, Nat.reduceEqDiff, List.getElem?_cons_zero, List.getElem?_cons_succ, List.set_cons_zero, List.set_cons_succ, List.append_nil, List.nil_append, List.cons_append, gst_F, gst_B, e0, c1, beq_no h1, c2, beq_no h2, c3, c4, z3, place_int, pb]
            rw [if_neg h3, if_pos h4]
            show _ = RS.ret (D.bl (if p < 16 then some (Od.trim p) else none).isSome) η
            by_cases h : p < 16
            · rw [if_pos h, decide_eq_true h]; rfl
            · rw [if_neg h, decide_eq_false h]; rfl
          · have z3 : (w == "read" || w == "trim") = false := by rw [beq_no h3, beq_no h4]; rfl
            simp only [↓evD, evU, evV, frz_newN, Option.bind_some, Bool.not_true, Bool.not_false, Bool.and_true, Bool.and_self, decide_true, decide_false, sizeLine_eq, Int.reduceLE, Int.reduceLT, Int.reduceBEq, Int.reduceAdd, Int.reduceSub, Int.cast_ofNat_Int, Int.natCast_zero, Int.natCast_one, List.length_cons, List.length_nil, Nat.reduceLeDiff, Nat.reduceAdd, Nat.reduceEqDiff, List.getElem?_cons_zero, List.getElem?_cons_succ, List.set_cons_zero, List.set_cons_succ, List.append_nil, List.nil_append, List.cons_append, gst_F, gst_B, e0, c1, beq_no h1, c2, beq_no h2, c3, c4, z3]
            rw [if_neg h3, if_neg h4]
            rfl
      | [] =>
        have e0 : cmpF .Eq (.tup [.str w]) (.tup []) η = .ok (.bl false) η := wns_ne (η := η) (ks := []) ha
        show sSeq _ _ [some (.tup [.str w]), none, none] η = _
        simp only [↓evD, evU, evV, frz_newN, Option.bind_some, Bool.not_true, Bool.not_false, Bool.and_true, Bool.and_self, decide_true, decide_false, sizeLine_eq, Int.reduceLE, Int.reduceLT, Int.reduceBEq, Int.reduceAdd, Int.reduceSub, Int.cast_ofNat_Int, Int.natCast_zero, Int.natCast_one, List.length_cons, List.length_nil, Nat.reduceLeDiff, Nat.reduceAdd, Nat.reduceEqDiff, List.getElem?_cons_zero, List.getElem?_cons_succ, List.set_cons_zero, List.set_cons_succ, List.append_nil, List.nil_append, List.cons_append, gst_F, gst_B, e0, c1, beq_no h1, c2, beq_no h2]
        split
        · rfl
        · split <;> rfl
      | a :: b :: r =>
        have e0 := wns_ne (η := η) (ks := a :: b :: r) ha
        have l1 : (((((nsD (a :: b :: r)).length : Nat) : Int)) == 1) = false := beq_eq_false_iff_ne.mpr (by rw [nsD_len]; simp; omega)
        simp only [↓evD, evU, evV, frz_newN, Option.bind_some, Bool.not_true, Bool.not_false, Bool.and_true, Bool.and_self, decide_true, decide_false, sizeLine_eq, Int.reduceLE, Int.reduceLT, Int.reduceBEq, Int.reduceAdd, Int.reduceSub, Int.cast_ofNat_Int, Int.natCast_zero, Int.natCast_one, List.length_cons, List.length_nil, Nat.reduceLeDiff, Nat.reduceAdd, Nat.reduceEqDiff, List.getElem?_cons_zero, List.getElem?_cons_succ, List.set_cons_zero, List.set_cons_succ, List.append_nil, List.nil_append, List.cons_append, gst_F, gst_B, e0, z, c1, beq_no h1, c2, beq_no h2, l1]
        split
        · rfl
        · split <;> rfl
theorem grp_ne {rows : List (Nat × Nat)} : cmpF .Eq (.tup [.str "group", .tup (rows.map prD)]) (.tup []) η = .ok (.bl false) η := by
  have pr : ∀ rows : List (Nat × Nat), PyData.canLayAll0 (rows.map prP) = true ∧ PyData.depthAll (rows.map prP) ≤ 1 := fun rows => by
    induction rows with
    | nil => exact ⟨rfl, by show 0 ≤ 1; omega⟩
    | cons r t ih =>
      refine ⟨?_, ?_⟩
      · show (true && PyData.canLayAll0 (t.map prP)) = true
        rw [ih.1]
        rfl
      · show max 1 (PyData.depthAll (t.map prP)) ≤ 1
        have := ih.2
        omega
  have e : py η (.tup [.str "group", .tup (rows.map prD)]) = some (.tuple [.str "group", .tuple (rows.map prP)]) := by
    show (match some (PyData.str "group"), (match (pyL (pyR η 4) (rows.map prD)).map PyData.tuple, some [] with
      | some x, some xs => some (x :: xs)
      | _, _ => none) with
      | some x, some xs => some (x :: xs)
      | _, _ => none).map _ = _
    rw [pyL_prs]
    rfl
  show eqB _ _ _ id = _
  unfold eqB
  rw [e]
  have sh : SeqAt.shaped (.tuple [.str "group", .tuple (rows.map prP)]) = true := shaped_tup (by
    show (PyData.strOk "group" && (PyData.canLayAll0 (rows.map prP) && true)) = true
    rw [(pr rows).1]
    decide +kernel) (by
    show max 0 (max (PyData.depthAll (rows.map prP) + 1) 0) ≤ 60
    have := (pr rows).2
    omega)
  show (if SeqAt.shaped (.tuple [.str "group", .tuple (rows.map prP)]) && SeqAt.shaped (.tuple []) then okB _ _ else .bad) = _
  rw [sh]
  rfl
theorem shape_g {rows : List (Nat × Nat)} : Q (n + 6) f_has_shape [.tup [.str "group", .tup (rows.map prD)]] η = .ok (.bl (rowsB rows)) η := by
  rw [u_has_shape]
  refine fin_r ?_
  unfold m_has_shape
  have c1 : ∀ η : Hv, cmpF .Eq (.str "group") (.str "mend") η = .ok (.bl false) η := fun η => by kernel_rfl
  have c2 : ∀ η : Hv, cmpF .Eq (.str "group") (.str "write") η = .ok (.bl false) η := fun η => by kernel_rfl
  have c3 : ∀ η : Hv, cmpF .Eq (.str "group") (.str "group") η = .ok (.bl true) η := fun η => by kernel_rfl
  simp only [↓evD, evU, evV, frz_newN, Option.bind_some, Bool.not_true, Bool.not_false, Bool.and_true, Bool.and_self, decide_true, decide_false, sizeLine_eq, Int.reduceLE, Int.reduceLT, Int.reduceBEq, Int.reduceAdd, Int.reduceSub, Int.cast_ofNat_Int, Int.natCast_zero, Int.natCast_one, List.length_cons, List.length_nil, Nat.reduceLeDiff, Nat.reduceAdd, Nat.reduceEqDiff, List.getElem?_cons_zero, List.getElem?_cons_succ, List.set_cons_zero, List.set_cons_succ, List.append_nil, List.nil_append, List.cons_append, gst_F, gst_B, grp_ne, c1, c2, c3, are_rows_l]
theorem shape_0 : Q (n + 1) f_has_shape [.tup []] η = .ok (.bl false) η := by
  rw [u_has_shape]
  refine fin_r ?_
  unfold m_has_shape
  have c1 : cmpF .Eq (.tup []) (.tup []) η = .ok (.bl true) η := by kernel_rfl
  simp only [↓evD, evU, evV, frz_newN, Option.bind_some, Bool.not_true, Bool.not_false, Bool.and_true, Bool.and_self, decide_true, decide_false, sizeLine_eq, Int.reduceLE, Int.reduceLT, Int.reduceBEq, Int.reduceAdd, Int.reduceSub, Int.cast_ofNat_Int, Int.natCast_zero, Int.natCast_one, List.length_cons, List.length_nil, Nat.reduceLeDiff, Nat.reduceAdd, Nat.reduceEqDiff, List.getElem?_cons_zero, List.getElem?_cons_succ, List.set_cons_zero, List.set_cons_succ, List.append_nil, List.nil_append, List.cons_append, c1]
theorem asc_ow (o : Od) : asc o.w = true := by
  cases o with
  | write _ _ => exact (by decide +kernel : asc ("write" : Str) = true)
  | trim _ => exact (by decide +kernel : asc ("trim" : Str) = true)
  | read _ => exact (by decide +kernel : asc ("read" : Str) = true)
  | mend => exact (by decide +kernel : asc ("mend" : Str) = true)
  | group _ => exact (by decide +kernel : asc ("group" : Str) = true)
theorem shape_od {o : Od} (h : o.ok) : Q (n + 6) f_has_shape [o.d] η = .ok (.bl true) η := by
  by_cases hg : ∃ rows, o = .group rows
  · obtain ⟨rows, rfl⟩ := hg
    show Q (n + 6) f_has_shape [.tup [.str "group", .tup (rows.map prD)]] η = _
    rw [shape_g, rowsB_ok.mpr h]
  · have e : o.d = .tup (.str o.w :: nsD o.ns) := by
      show D.tup (.str o.w :: o.args) = _
      rw [od_plain fun rows e => hg ⟨rows, e⟩]
      rfl
    have hw : o.w ≠ "group" := by
      cases o with
      | group rows => exact (hg ⟨rows, rfl⟩).elim
      | _ => exact w_ne (by kernel_rfl)
    have ha := asc_ow o
    rw [e, shape_w ha hw (by have := (ns_ok h).2; omega), ordF_ok h]
    rfl
end Mi
end

section
set_option maxRecDepth 100000
set_option maxHeartbeats 4000000
/-! T5: orders and weathers, read from any text. -/
noncomputable section
namespace Mi
open PySem En Tx
variable {n : Nat} {η : Hv}
theorem split_r {t : Str} (hl : t.length ≤ 1000) : mtG "str" "split" (.str t) [.str " "] η = newL ((wrds t).map D.str) η := by
  have e : mtG "str" "split" = splitM := by kernel_rfl
  rw [e]
  show (if ((" " : Str).length == 0) = false ∧ t.length + 2 ≤ sizeLine then newL ((Txt.split t " ").map D.str) η else .bad) = _
  rw [if_pos ⟨by kernel_rfl, by rw [sizeLine_eq]; omega⟩]
  rfl
theorem starF_ref {g h : Tgt} {x : D} {r : List D} {env : Ev} {η : Hv} (hr : r.length ≤ 16000) : gStarF g h (.ref η.length) env (η ++ [O.lst (x :: r)]) = (g x env (η ++ [O.lst (x :: r)])).bind fun e1 η1 => h (.lst r) e1 η1 := by
  have : starOf (η ++ [O.lst (x :: r)]) (.ref η.length) = some (x, r) := by
    unfold starOf
    dsimp only
    unfold lstOf
    dsimp only
    rw [at_len]
  unfold gStarF
  rw [this]
  dsimp only
  rw [if_pos hr]
theorem stp_ev {ks : List Nat} (hl : ks.length ≤ 1000) : stpD (.tup (nsD ks)) none none (some 2) η = .ok (.tup (ev (nsD ks))) η := by
  show (if _ then R.ok (D.tup (pickL (nsD ks) none none 2)) η else .bad) = _
  rw [pick_ev, if_pos ⟨by decide, by decide, by have := ev_len (nsD ks); rw [nsD_len] at this; rw [sizeLine_eq]; omega⟩]
theorem stp_od {ks : List Nat} (hl : ks.length ≤ 1000) : stpD (.tup (nsD ks)) (some 1) none (some 2) η = .ok (.tup (od (nsD ks))) η := by
  show (if _ then R.ok (D.tup (pickL (nsD ks) (some 1) none 2)) η else .bad) = _
  rw [pick_od, if_pos ⟨by decide, by decide, by have := od_len (nsD ks); rw [nsD_len] at this; rw [sizeLine_eq]; omega⟩]
theorem xStp_ {m : Exp} {lo hi st : Opt} {env : Ev} {η : Hv} : xStp m lo hi st env η = (m env η).bind fun d η1 => (lo env η1).bind fun i η2 => (hi env η2).bind fun j η3 => (st env η3).bind fun c η4 => stpD d i j c η4 := rfl
theorem xTupZip_ {l : Lst} {env : Ev} {η η2 : Hv} {xs ys : List D} (h : l env η = .ok [.tup xs, .tup ys] η2) (h1 : xs.length ≤ 1000) (h2 : ys.length ≤ 1000) : xTupZip l env η = .ok (.tup (zipL xs ys)) η2 := by
  unfold xTupZip
  rw [h]
  show (if xs.length ≤ 1000 ∧ ys.length ≤ 1000 then _ else _) = _
  rw [if_pos ⟨h1, h2⟩]
theorem od_nr (o : Od) : noRef o.d = true := od_noRef o
theorem oO_nr (o : Option Od) : noRef (oO o) = true := by cases o with | none => rfl | some o => exact od_noRef o
theorem order_in_s {t : Str} (ha : asc t = true) (hl : t.length ≤ 1000) : Q (n + 7) f_order_in [.str t] η = .ok (oO (ordIn t)) η := by
  rw [u_order_in]
  obtain ⟨w, ws, hw⟩ : ∃ w ws, wrds t = w :: ws := List.exists_cons_of_ne_nil (wrds_ne t)
  have hwl := wrds_len t
  rw [hw, List.length_cons] at hwl
  have haw : asc w = true := wrd_asc ha (by rw [hw]; exact List.mem_cons_self)
  have t1 : ∀ env : Ev, gStarF (gSlot 3) (gSlot 4) (.ref η.length) env (η ++ [O.lst (D.str w :: ws.map D.str)]) = .ok ((env.set 3 (some (.str w))).set 4 (some (.lst (ws.map D.str)))) (η ++ [O.lst (D.str w :: ws.map D.str)]) := fun env => by
    rw [starF_ref (by rw [List.length_map]; omega)]
    rfl
  have s1 : mtG "str" "split" (.str t) [.str " "] η = .ok (.ref η.length) (η ++ [O.lst (D.str w :: ws.map D.str)]) := by
    rw [split_r hl, hw]
    rfl
  have n1 := fun η => numbers_in_l (n := n + 4) (η := η) (ws := ws) (fun x hx => wrd_asc ha (by rw [hw]; exact List.mem_cons_of_mem _ hx)) (fun x hx => by have := wrd_len (t := t) (w := x) (by rw [hw]; exact List.mem_cons_of_mem _ hx); omega) (by omega)
  suffices h : m_order_in (Q (n + 6)) [some (.str t), none, none, none, none] η = .ret (oO (ordIn t)) (η ++ [O.lst (D.str w :: ws.map D.str)]) from
    fin_v h (ltD_of (oO_nr _)) rfl id
  unfold m_order_in
  generalize η ++ [O.lst (D.str w :: ws.map D.str)] = η1 at *
  unfold ordIn
  rw [hw]
  dsimp only
  cases q : numsIn ws with
  | none =>
    rw [q] at n1
    have n2 : ∀ η : Hv, Q (n + 6) f_numbers_in [.lst (ws.map D.str)] η = .ok .non η := n1
    simp only [↓evD, evU, evV, frz_newN, Option.bind_some, Bool.not_true, Bool.not_false, Bool.and_true, Bool.and_self, decide_true, decide_false, sizeLine_eq, Int.reduceLE, Int.reduceLT, Int.reduceBEq, Int.reduceAdd, Int.reduceSub, Int.cast_ofNat_Int, Int.natCast_zero, Int.natCast_one, List.length_cons, List.length_nil, Nat.reduceLeDiff, Nat.reduceAdd, Nat.reduceEqDiff, List.getElem?_cons_zero, List.getElem?_cons_succ, List.set_cons_zero, List.set_cons_succ, List.append_nil, List.nil_append, List.cons_append, gst_M, gst_mok, gst_F, mok_split, s1, t1, n2]
    rfl
  | some ks =>
    rw [q] at n1
    have n2 : ∀ η : Hv, Q (n + 6) f_numbers_in [.lst (ws.map D.str)] η = .ok (.tup (nsD ks)) η := n1
    have hkl : ks.length ≤ 1000 := by
      have := congrArg List.length (numsIn_some q).1
      rw [List.length_map] at this
      omega
    have a1 : ∀ η : Hv, binF .Add (.tup [.str w]) (.tup (nsD ks)) η = .ok (.tup (.str w :: nsD ks)) η := fun η => by
      show (if [D.str w].length + (nsD ks).length ≤ sizeLine then R.ok (D.tup ([.str w] ++ nsD ks)) η else .bad) = _
      rw [if_pos (by rw [nsD_len, sizeLine_eq]; simp; omega)]
      rfl
    have c3 : ∀ η : Hv, cmpF .Eq (.str w) (.str "group") η = .ok (.bl (w == "group")) η := fun η => eq_s haw (by decide +kernel)
    rw [Option.bind_some]
    by_cases hg : w = "group"
    · subst hg
      have z3 : (("group" : Str) == "group") = true := by decide +kernel
      have c3 : ∀ η : Hv, cmpF .Eq (.str "group") (.str "group") η = .ok (.bl true) η := fun η => by kernel_rfl
      have b1 : ∀ η : Hv, binF .Mod (.int ((nsD ks).length : Nat)) (.int 2) η = .ok (.int ((ks.length % 2 : Nat) : Int)) η := fun η => by
        show (if (0 : Int) < 2 then okI ((((nsD ks).length : Nat) : Int) % 2) η else .bad) = _
        rw [if_pos (by decide), nsD_len]
        rfl
      by_cases he : ks.length % 2 = 0
      · have e0 : ((((ks.length % 2 : Nat) : Int)) == 0) = true := by rw [he]; rfl
        have zp : ∀ (env : Ev) (η : Hv), env[1]? = some (some (.tup (nsD ks))) → xTupZip (xCons (xFrz (xStp (xVar 1) xNoPart xNoPart (xPart (xC (.int 2))))) (xCons (xFrz (xStp (xVar 1) (xPart (xC (.int 1))) xNoPart (xPart (xC (.int 2))))) xNil)) env η = .ok (.tup ((prs ks).map prD)) η := fun env η he2 => by
          rw [xTupZip_ (xs := ev (nsD ks)) (ys := od (nsD ks)) (η2 := η) ?_ (by have := ev_len (nsD ks); rw [nsD_len] at this; omega) (by have := od_len (nsD ks); rw [nsD_len] at this; omega), show zipL (ev (nsD ks)) (od (nsD ks)) = _ from zip_prs ks he]
          simp only [↓evD, evU, evV, frz_newN, Option.bind_some, Bool.not_true, Bool.not_false, Bool.and_true, Bool.and_self, decide_true, decide_false, sizeLine_eq, Int.reduceLE, Int.reduceLT, Int.reduceBEq, Int.reduceAdd, Int.reduceSub, Int.cast_ofNat_Int, Int.natCast_zero, Int.natCast_one, List.length_cons, List.length_nil, Nat.reduceLeDiff, Nat.reduceAdd, Nat.reduceEqDiff, List.getElem?_cons_zero, List.getElem?_cons_succ, List.set_cons_zero, List.set_cons_succ, List.append_nil, List.nil_append, List.cons_append, xStp_, he2, stp_ev hkl, stp_od hkl]
        have sg : ∀ η : Hv, Q (n + 6) f_has_shape [.tup [.str "group", .tup ((prs ks).map prD)]] η = .ok (.bl (rowsB (prs ks))) η := fun η => shape_g
        have eo : ordF "group" ks = if rowsB (prs ks) = true then some (.group (prs ks)) else none := by
          unfold ordF
          rw [if_neg (w_ne (by kernel_rfl)), if_neg (w_ne (by kernel_rfl)), if_pos rfl]
          by_cases hr : rowsB (prs ks) = true
          · rw [if_pos ⟨he, hr⟩, if_pos hr]
          · rw [if_neg (fun h => hr h.2), if_neg hr]
        rw [eo]
        cases hr : rowsB (prs ks) with
        | true =>
          rw [hr] at sg
          simp only [↓evD, evU, evV, frz_newN, Option.bind_some, Bool.not_true, Bool.not_false, Bool.and_true, Bool.and_self, decide_true, decide_false, sizeLine_eq, Int.reduceLE, Int.reduceLT, Int.reduceBEq, Int.reduceAdd, Int.reduceSub, Int.cast_ofNat_Int, Int.natCast_zero, Int.natCast_one, List.length_cons, List.length_nil, Nat.reduceLeDiff, Nat.reduceAdd, Nat.reduceEqDiff, List.getElem?_cons_zero, List.getElem?_cons_succ, List.set_cons_zero, List.set_cons_succ, List.append_nil, List.nil_append, List.cons_append, gst_M, gst_mok, gst_F, gst_B, mok_split, s1, t1, n2, a1, c3, b1, e0, zp, sg]
          rfl
        | false =>
          rw [hr] at sg
          simp only [↓evD, evU, evV, frz_newN, Option.bind_some, Bool.not_true, Bool.not_false, Bool.and_true, Bool.and_self, decide_true, decide_false, sizeLine_eq, Int.reduceLE, Int.reduceLT, Int.reduceBEq, Int.reduceAdd, Int.reduceSub, Int.cast_ofNat_Int, Int.natCast_zero, Int.natCast_one, List.length_cons, List.length_nil, Nat.reduceLeDiff, Nat.reduceAdd, Nat.reduceEqDiff, List.getElem?_cons_zero, List.getElem?_cons_succ, List.set_cons_zero, List.set_cons_succ, List.append_nil, List.nil_append, List.cons_append, gst_M, gst_mok, gst_F, gst_B, mok_split, s1, t1, n2, a1, c3, b1, e0, zp, sg]
          rfl
      · have e0 : ((((ks.length % 2 : Nat) : Int)) == 0) = false := beq_eq_false_iff_ne.mpr (by omega)
        have eo : ordF "group" ks = none := by
          unfold ordF
          rw [if_neg (w_ne (by kernel_rfl)), if_neg (w_ne (by kernel_rfl)), if_pos rfl, if_neg (fun h => he h.1)]
        rw [eo]
        simp only [↓evD, evU, evV, frz_newN, Option.bind_some, Bool.not_true, Bool.not_false, Bool.and_true, Bool.and_self, decide_true, decide_false, sizeLine_eq, Int.reduceLE, Int.reduceLT, Int.reduceBEq, Int.reduceAdd, Int.reduceSub, Int.cast_ofNat_Int, Int.natCast_zero, Int.natCast_one, List.length_cons, List.length_nil, Nat.reduceLeDiff, Nat.reduceAdd, Nat.reduceEqDiff, List.getElem?_cons_zero, List.getElem?_cons_succ, List.set_cons_zero, List.set_cons_succ, List.append_nil, List.nil_append, List.cons_append, gst_M, gst_mok, gst_F, gst_B, mok_split, s1, t1, n2, a1, c3, b1, e0, shape_0 (n := n + 5)]
        rfl
    · have sw : ∀ η : Hv, Q (n + 6) f_has_shape [.tup (.str w :: nsD ks)] η = .ok (.bl (ordF w ks).isSome) η := fun η => shape_w haw hg (by omega)
      cases ho : ordF w ks with
      | none =>
        rw [ho] at sw
        simp only [↓evD, evU, evV, frz_newN, Option.bind_some, Bool.not_true, Bool.not_false, Bool.and_true, Bool.and_self, decide_true, decide_false, sizeLine_eq, Int.reduceLE, Int.reduceLT, Int.reduceBEq, Int.reduceAdd, Int.reduceSub, Int.cast_ofNat_Int, Int.natCast_zero, Int.natCast_one, List.length_cons, List.length_nil, Nat.reduceLeDiff, Nat.reduceAdd, Nat.reduceEqDiff, List.getElem?_cons_zero, List.getElem?_cons_succ, List.set_cons_zero, List.set_cons_succ, List.append_nil, List.nil_append, List.cons_append, gst_M, gst_mok, gst_F, gst_B, mok_split, s1, t1, n2, a1, c3, beq_no hg, sw, Option.isSome_none]
        rfl
      | some o =>
        rw [ho] at sw
        simp only [↓evD, evU, evV, frz_newN, Option.bind_some, Bool.not_true, Bool.not_false, Bool.and_true, Bool.and_self, decide_true, decide_false, sizeLine_eq, Int.reduceLE, Int.reduceLT, Int.reduceBEq, Int.reduceAdd, Int.reduceSub, Int.cast_ofNat_Int, Int.natCast_zero, Int.natCast_one, List.length_cons, List.length_nil, Nat.reduceLeDiff, Nat.reduceAdd, Nat.reduceEqDiff, List.getElem?_cons_zero, List.getElem?_cons_succ, List.set_cons_zero, List.set_cons_succ, List.append_nil, List.nil_append, List.cons_append, gst_M, gst_mok, gst_F, gst_B, mok_split, s1, t1, n2, a1, c3, beq_no hg, sw, Option.isSome_some]
        obtain ⟨h1, h2, h3⟩ := ordF_some ho
        show RS.ret _ _ = RS.ret o.d _
        have : D.tup (.str w :: nsD ks) = o.d := by
          show _ = D.tup (.str o.w :: o.args)
          rw [od_plain fun rows e => hg (by rw [← h2, e]; rfl), h2, h3]
          rfl
        rw [this]
theorem read_order_s {t : Str} (ha : asc t = true) (hl : t.length ≤ 1000) : Q (n + 8) f_read_order [.str t] η = (match ordIn t with | some o => .ok o.d η | none => .exc 14 η) := by
  rw [u_read_order]
  cases h : ordIn t with
  | none =>
    refine fin_x (env := [some (.str t), some .non]) ?_
    have := order_in_s (n := n) (η := η) ha hl
    rw [h] at this
    have e : Q (n + 7) f_order_in [.str t] η = .ok .non η := this
    unfold m_read_order
    simp only [↓evD, evU, evV, frz_newN, Option.bind_some, Bool.not_true, Bool.not_false, Bool.and_true, Bool.and_self, decide_true, decide_false, sizeLine_eq, Int.reduceLE, Int.reduceLT, Int.reduceBEq, Int.reduceAdd, Int.reduceSub, Int.cast_ofNat_Int, Int.natCast_zero, Int.natCast_one, List.length_cons, List.length_nil, Nat.reduceLeDiff, Nat.reduceAdd, Nat.reduceEqDiff, List.getElem?_cons_zero, List.getElem?_cons_succ, List.set_cons_zero, List.set_cons_succ, List.append_nil, List.nil_append, List.cons_append, gst_F, e]
  | some o =>
    refine fin_r ?_
    have := order_in_s (n := n) (η := η) ha hl
    rw [h] at this
    have e : Q (n + 7) f_order_in [.str t] η = .ok o.d η := this
    have t2 : ∀ η : Hv, cmpF .Is o.d .non η = .ok (.bl false) η := fun _ => rfl
    unfold m_read_order
    simp only [↓evD, evU, evV, frz_newN, Option.bind_some, Bool.not_true, Bool.not_false, Bool.and_true, Bool.and_self, decide_true, decide_false, sizeLine_eq, Int.reduceLE, Int.reduceLT, Int.reduceBEq, Int.reduceAdd, Int.reduceSub, Int.cast_ofNat_Int, Int.natCast_zero, Int.natCast_one, List.length_cons, List.length_nil, Nat.reduceLeDiff, Nat.reduceAdd, Nat.reduceEqDiff, List.getElem?_cons_zero, List.getElem?_cons_succ, List.set_cons_zero, List.set_cons_succ, List.append_nil, List.nil_append, List.cons_append, gst_F, e, t2]
end Mi
end

section
set_option maxRecDepth 100000
set_option maxHeartbeats 4000000
/-! T6: faults, weathers read from any text. -/
noncomputable section
namespace Mi
open PySem En Tx
variable {n : Nat} {η : Hv}
def oF : Option (Nat × Fl) → D
  | some r => rowD r
  | none => .non
theorem oF_nr (o : Option (Nat × Fl)) : noRef (oF o) = true := by cases o with | none => rfl | some r => exact rowD_noRef r
theorem part_r {w a b c : Str} (hl : w.length ≤ 1000) (h : Txt.partition w (":" : Str) = (a, b, c)) : mtG "str" "partition" (.str w) [.str ":"] η = .ok (.tup [.str a, .str b, .str c]) η := by
  have e : mtG "str" "partition" = partM := by kernel_rfl
  rw [e]
  show (if ((":" : Str).length == 0) = false ∧ w.length ≤ sizeLine then R.ok (D.tup [.str (Txt.partition w ":").1, .str (Txt.partition w ":").2.1, .str (Txt.partition w ":").2.2]) η else .bad) = _
  rw [if_pos ⟨by kernel_rfl, by rw [sizeLine_eq]; omega⟩, h]
theorem asc_parts {w a b c : Str} (ha : asc w = true) (h : Txt.partition w (":" : Str) = (a, b, c)) : asc a = true ∧ asc c = true ∧ a.length ≤ w.length ∧ c.length ≤ w.length := by
  have e := StrLaws.partition_sum w (":" : Str)
  rw [h] at e
  dsimp only at e
  have hc : w.cps.toList = a.cps.toList ++ b.cps.toList ++ c.cps.toList := by
    have : ∀ a b : Str, (a ++ b).cps.toList = a.cps.toList ++ b.cps.toList := fun a b => Array.toList_append
    rw [← e, this, this]
  have h1 := asc_of_cps.mp ha
  rw [hc] at h1
  have hl := congrArg List.length hc
  rw [List.length_append, List.length_append] at hl
  have l1 := str_len w
  have l2 := str_len a
  have l3 := str_len c
  exact ⟨asc_of_cps.mpr fun x hx => h1 x (by simp [hx]), asc_of_cps.mpr fun x hx => h1 x (by simp [hx]), by omega, by omega⟩
theorem slc_s3 {f : Str} (hl : f.length ≤ 1000) : slcD (.str f) (some 3) none η = .ok (.str (L2.cutS f (some 3) none)) η := by
  show (if f.length ≤ sizeLine then R.ok (D.str (L2.cutS f (some 3) none)) η else .bad) = _
  rw [if_pos (by rw [sizeLine_eq]; omega)]
theorem starts_r {f : Str} : mtG "str" "startswith" (.str f) [.str "bit"] η = .ok (.bl (Txt.startswith f ("bit" : Str))) η := by
  have e : mtG "str" "startswith" = startM := by kernel_rfl
  rw [e]
  rfl
theorem fault_in_s {w : Str} (ha : asc w = true) (hl : w.length ≤ 1000) : Q (n + 2) f_fault_in [.str w] η = .ok (oF (fltIn w)) η := by
  rw [u_fault_in]
  refine fin_r ?_
  unfold m_fault_in
  obtain ⟨a, b, c, hp, hb⟩ : ∃ a b c : Str, Txt.partition w (":" : Str) = (a, b, c) ∧ ((b = "" ∧ True) ∨ b = ":") := by
    rcases at_colon w with ⟨h1, h2⟩ | ⟨a, b, h1, h2, h3⟩
    · exact ⟨_, _, _, h2, .inl ⟨rfl, trivial⟩⟩
    · exact ⟨_, _, _, h3, .inr rfl⟩
  obtain ⟨ha1, ha2, hl1, hl2⟩ := asc_parts ha hp
  have p1 := part_r (η := η) hl hp
  have n1 := fun η => number_in_s (n := n) (η := η) ha1 (by omega)
  unfold fltIn
  rw [hp]
  dsimp only
  cases q : numIn a with
  | none =>
    rw [q] at n1
    have n2 : ∀ η, Q (n + 1) f_number_in [.str a] η = .ok .non η := n1
    simp only [↓evD, evU, evV, frz_newN, Option.bind_some, Bool.not_true, Bool.not_false, Bool.and_true, Bool.and_self, decide_true, decide_false, sizeLine_eq, Int.reduceLE, Int.reduceLT, Int.reduceBEq, Int.reduceAdd, Int.reduceSub, Int.cast_ofNat_Int, Int.natCast_zero, Int.natCast_one, List.length_cons, List.length_nil, Nat.reduceLeDiff, Nat.reduceAdd, Nat.reduceEqDiff, List.getElem?_cons_zero, List.getElem?_cons_succ, List.set_cons_zero, List.set_cons_succ, List.append_nil, List.nil_append, List.cons_append, gst_M, gst_mok, gst_F, mok_part, p1, n2]
    rfl
  | some k =>
    rw [q] at n1
    have n2 : ∀ η, Q (n + 1) f_number_in [.str a] η = .ok (.int (k : Int)) η := n1
    dsimp only
    rcases hb with ⟨rfl, _⟩ | rfl
    · have c1 : ∀ η : Hv, cmpF .Eq (.str "") (.str "") η = .ok (.bl true) η := fun η => by kernel_rfl
      rw [if_pos rfl]
      simp only [↓evD, evU, evV, frz_newN, Option.bind_some, Bool.not_true, Bool.not_false, Bool.and_true, Bool.and_self, decide_true, decide_false, sizeLine_eq, Int.reduceLE, Int.reduceLT, Int.reduceBEq, Int.reduceAdd, Int.reduceSub, Int.cast_ofNat_Int, Int.natCast_zero, Int.natCast_one, List.length_cons, List.length_nil, Nat.reduceLeDiff, Nat.reduceAdd, Nat.reduceEqDiff, List.getElem?_cons_zero, List.getElem?_cons_succ, List.set_cons_zero, List.set_cons_succ, List.append_nil, List.nil_append, List.cons_append, gst_M, gst_mok, gst_F, mok_part, p1, n2, c1]
      rfl
    · have c1 : ∀ η : Hv, cmpF .Eq (.str ":") (.str "") η = .ok (.bl false) η := fun η => by kernel_rfl
      rw [if_neg (w_ne (by kernel_rfl))]
      have c2 := fun η => in_two (η := η) (w := c) (a := "cut") (b := "bad") ha2 (by decide +kernel) (by decide +kernel)
      unfold endIn
      by_cases h1 : c = "cut"
      · rw [if_pos h1]
        have z : (c == "cut" || c == "bad") = true := by rw [h1]; decide +kernel
        simp only [↓evD, evU, evV, frz_newN, Option.bind_some, Bool.not_true, Bool.not_false, Bool.and_true, Bool.and_self, decide_true, decide_false, sizeLine_eq, Int.reduceLE, Int.reduceLT, Int.reduceBEq, Int.reduceAdd, Int.reduceSub, Int.cast_ofNat_Int, Int.natCast_zero, Int.natCast_one, List.length_cons, List.length_nil, Nat.reduceLeDiff, Nat.reduceAdd, Nat.reduceEqDiff, List.getElem?_cons_zero, List.getElem?_cons_succ, List.set_cons_zero, List.set_cons_succ, List.append_nil, List.nil_append, List.cons_append, gst_M, gst_mok, gst_F, mok_part, p1, n2, c1, c2, z]
        rw [h1]
        rfl
      · rw [if_neg h1]
        by_cases h2 : c = "bad"
        · rw [if_pos h2]
          have z : (c == "cut" || c == "bad") = true := by rw [h2]; decide +kernel
          simp only [↓evD, evU, evV, frz_newN, Option.bind_some, Bool.not_true, Bool.not_false, Bool.and_true, Bool.and_self, decide_true, decide_false, sizeLine_eq, Int.reduceLE, Int.reduceLT, Int.reduceBEq, Int.reduceAdd, Int.reduceSub, Int.cast_ofNat_Int, Int.natCast_zero, Int.natCast_one, List.length_cons, List.length_nil, Nat.reduceLeDiff, Nat.reduceAdd, Nat.reduceEqDiff, List.getElem?_cons_zero, List.getElem?_cons_succ, List.set_cons_zero, List.set_cons_succ, List.append_nil, List.nil_append, List.cons_append, gst_M, gst_mok, gst_F, mok_part, p1, n2, c1, c2, z]
          rw [h2]
          rfl
        · rw [if_neg h2]
          have z : (c == "cut" || c == "bad") = false := by rw [beq_no h1, beq_no h2]; rfl
          cases hs : Txt.startswith c ("bit" : Str) with
          | false =>
            rw [if_neg (by decide)]
            simp only [↓evD, evU, evV, frz_newN, Option.bind_some, Bool.not_true, Bool.not_false, Bool.and_true, Bool.and_self, decide_true, decide_false, sizeLine_eq, Int.reduceLE, Int.reduceLT, Int.reduceBEq, Int.reduceAdd, Int.reduceSub, Int.cast_ofNat_Int, Int.natCast_zero, Int.natCast_one, List.length_cons, List.length_nil, Nat.reduceLeDiff, Nat.reduceAdd, Nat.reduceEqDiff, List.getElem?_cons_zero, List.getElem?_cons_succ, List.set_cons_zero, List.set_cons_succ, List.append_nil, List.nil_append, List.cons_append, gst_M, gst_mok, gst_F, mok_part, mok_start, p1, n2, c1, c2, z, starts_r, hs]
            rfl
          | true =>
            rw [if_pos rfl]
            have l3 : ∀ η : Hv, biH .len [.str "bit"] η = .ok (.int 3) η := fun η => by kernel_rfl
            have hc3 := cut3 c
            have n3 := fun η => number_in_s (n := n) (η := η) (s := L2.cutS c (some 3) none) (asc_of_cps.mpr fun x hx => asc_of_cps.mp ha2 x (List.mem_of_mem_drop (by rwa [hc3] at hx))) (by rw [str_len, hc3, List.length_drop, ← str_len]; omega)
            cases q3 : numIn (L2.cutS c (some 3) none) with
            | none =>
              rw [q3] at n3
              have n4 : ∀ η, Q (n + 1) f_number_in [.str (L2.cutS c (some 3) none)] η = .ok .non η := n3
              simp only [↓evD, evU, evV, frz_newN, Option.bind_some, Bool.not_true, Bool.not_false, Bool.and_true, Bool.and_self, decide_true, decide_false, sizeLine_eq, Int.reduceLE, Int.reduceLT, Int.reduceBEq, Int.reduceAdd, Int.reduceSub, Int.cast_ofNat_Int, Int.natCast_zero, Int.natCast_one, List.length_cons, List.length_nil, Nat.reduceLeDiff, Nat.reduceAdd, Nat.reduceEqDiff, List.getElem?_cons_zero, List.getElem?_cons_succ, List.set_cons_zero, List.set_cons_succ, List.append_nil, List.nil_append, List.cons_append, gst_M, gst_mok, gst_F, gst_B, mok_part, mok_start, p1, n2, c1, c2, z, starts_r, hs, l3, slc_s3 (f := c) (by omega), n4]
              rfl
            | some j =>
              rw [q3] at n3
              have n4 : ∀ η, Q (n + 1) f_number_in [.str (L2.cutS c (some 3) none)] η = .ok (.int (j : Int)) η := n3
              simp only [↓evD, evU, evV, frz_newN, Option.bind_some, Bool.not_true, Bool.not_false, Bool.and_true, Bool.and_self, decide_true, decide_false, sizeLine_eq, Int.reduceLE, Int.reduceLT, Int.reduceBEq, Int.reduceAdd, Int.reduceSub, Int.cast_ofNat_Int, Int.natCast_zero, Int.natCast_one, List.length_cons, List.length_nil, Nat.reduceLeDiff, Nat.reduceAdd, Nat.reduceEqDiff, List.getElem?_cons_zero, List.getElem?_cons_succ, List.set_cons_zero, List.set_cons_succ, List.append_nil, List.nil_append, List.cons_append, gst_M, gst_mok, gst_F, gst_B, mok_part, mok_start, p1, n2, c1, c2, z, starts_r, hs, l3, slc_s3 (f := c) (by omega), n4]
              rfl
/-! ### weathers -/
theorem pyL_oF {rf : Nat → Option PyData} : ∀ l : List (Option (Nat × Fl)), pyL rf (l.map oF) = some (l.map fun k => match k with | some k => rowP k | none => PyData.none)
  | [] => rfl
  | k :: r => by
    show (match pyD rf (oF k), pyL rf (r.map oF) with
      | some x, some xs => some (x :: xs)
      | _, _ => none) = _
    rw [pyL_oF r]
    cases k with
    | none => rfl
    | some k =>
      show (match pyD rf (rowD k), some _ with
        | some x, some xs => some (x :: xs)
        | _, _ => none) = _
      rw [pyD_row]
      rfl
theorem lay_oF : ∀ l : List (Option (Nat × Fl)), PyData.canLayAll0 (l.map fun k => match k with | some k => rowP k | none => PyData.none) = true ∧ PyData.depthAll (l.map fun k => match k with | some k => rowP k | none => PyData.none) ≤ 2
  | [] => ⟨rfl, Nat.zero_le _⟩
  | k :: r => by
    obtain ⟨h1, h2⟩ := lay_oF r
    cases k with
    | none =>
      refine ⟨h1, ?_⟩
      show max 0 _ ≤ 2
      omega
    | some k =>
      refine ⟨?_, ?_⟩
      · show (PyData.canLay0 (rowP k) && _) = true
        rw [lay_row, h1]
        rfl
      · show max (PyData.depth (rowP k)) _ ≤ 2
        rw [depth_row]
        omega
theorem non_in_oF {l : List (Option (Nat × Fl))} : cmpF .In .non (.tup (l.map oF)) η = .ok (.bl (l.any Option.isNone)) η := by
  have e : py η (.tup (l.map oF)) = some (.tuple (l.map fun k => match k with | some k => rowP k | none => PyData.none)) := by
    show (pyL (pyR η 4) (l.map oF)).map _ = _
    rw [pyL_oF]
    rfl
  show (match py η D.non, py η (.tup (l.map oF)) with
    | some x, some (.list ys) => if SeqAt.shaped x && SeqAt.shaped (.list ys) then okB (id (ys.any fun z => PyData.eqv z x)) _ else .bad
    | some x, some (.tuple ys) => if SeqAt.shaped x && SeqAt.shaped (.tuple ys) then okB (id (ys.any fun z => PyData.eqv z x)) _ else .bad
    | _, _ => .bad) = _
  rw [e]
  show (if SeqAt.shaped .none && SeqAt.shaped (.tuple (l.map _)) then okB _ _ else .bad) = _
  rw [shaped_tup (lay_oF l).1 (by have := (lay_oF l).2; omega)]
  show okB _ _ = _
  have : ((l.map fun k => match k with | some k => rowP k | none => PyData.none).any fun z => PyData.eqv z .none) = l.any Option.isNone := by
    rw [List.any_map]
    congr 1
    funext k
    cases k <;> rfl
  rw [id, this]
  rfl
theorem flts_any : ∀ ws : List Str, (ws.map fltIn).any Option.isNone = (fltsIn ws).isNone
  | [] => rfl
  | w :: r => by
    rw [List.map_cons, List.any_cons, flts_any r]
    cases q1 : fltIn w with
    | none => rw [fltsIn_none (.inl q1)]; rfl
    | some k =>
      cases q2 : fltsIn r with
      | none => rw [fltsIn_none (.inr q2)]; rfl
      | some ks => rw [fltsIn_cons q1 q2]; rfl
theorem flts_map {ws : List Str} {w : List (Nat × Fl)} (h : fltsIn ws = some w) : (ws.map fun x => oF (fltIn x)) = w.map rowD := by
  obtain ⟨h1, h2⟩ := fltsIn_some h
  rw [h1, List.map_map]
  refine List.map_congr_left fun r hr => ?_
  show oF (fltIn (rowT r)) = _
  rw [fltIn_rowT (h2 r hr).1 (h2 r hr).2]
  rfl
theorem split_fr {t : Str} (hl : t.length ≤ 1000) : frz η (mtG "str" "split" (.str t) [.str " "] η) = .ok (.lst ((wrds t).map D.str)) η := by
  rw [split_r hl]
  exact frz_newN (noRefs_map fun _ _ => rfl)
theorem read_weather_s {t : Str} (ha : asc t = true) (hl : t.length ≤ 1000) : Q (n + 5) f_read_weather [.str t] η = (match wetIn t with | some w => .ok (wD w) η | none => .exc 14 η) := by
  have c1 : ∀ η : Hv, cmpF .NotEq (.str t) (.str "-") η = .ok (.bl (!(t == "-"))) η := fun η => ne_s ha (by decide +kernel)
  rw [u_read_weather]
  unfold wetIn
  by_cases h : t = "-"
  · rw [if_pos h]
    have z : (t == "-") = true := by rw [h]; decide +kernel
    have c2 : cmpF .In .non (.tup []) η = .ok (.bl false) η := non_in_oF (l := [])
    have w0 : Q (n + 4) f_is_weather [.tup []] η = .ok (.bl true) η := is_weather_l (w := [])
    refine fin_r ?_
    unfold m_read_weather
    simp only [↓evD, evU, evV, frz_newN, Option.bind_some, Bool.not_true, Bool.not_false, Bool.and_true, Bool.and_self, decide_true, decide_false, sizeLine_eq, Int.reduceLE, Int.reduceLT, Int.reduceBEq, Int.reduceAdd, Int.reduceSub, Int.cast_ofNat_Int, Int.natCast_zero, Int.natCast_one, List.length_cons, List.length_nil, Nat.reduceLeDiff, Nat.reduceAdd, Nat.reduceEqDiff, List.getElem?_cons_zero, List.getElem?_cons_succ, List.set_cons_zero, List.set_cons_succ, List.append_nil, List.nil_append, List.cons_append, gst_F, c1, z, c2, w0]
    rfl
  · rw [if_neg h]
    have z : (t == "-") = false := beq_no h
    have hwl := wrds_len t
    have wi : WkOk (iVal (xFrz (xBm (gst (Q (n + 4))) "split" (xVar 0) (xCons (xC (.str " ")) xNil)))) [some (.str t), none, none] η (wrds t) D.str := wk_lst (by simp only [↓evD, evU, evV, frz_newN, Option.bind_some, Bool.not_true, Bool.not_false, Bool.and_true, Bool.and_self, decide_true, decide_false, sizeLine_eq, Int.reduceLE, Int.reduceLT, Int.reduceBEq, Int.reduceAdd, Int.reduceSub, Int.cast_ofNat_Int, Int.natCast_zero, Int.natCast_one, List.length_cons, List.length_nil, Nat.reduceLeDiff, Nat.reduceAdd, Nat.reduceEqDiff, List.getElem?_cons_zero, List.getElem?_cons_succ, List.set_cons_zero, List.set_cons_succ, List.append_nil, List.nil_append, List.cons_append, gst_M, gst_mok, mok_split, split_fr hl]) rfl
    have cm := compM (own := [2]) (g := gSlot 2) (m := xCall (gst (Q (n + 4))) f_fault_in [] (xCons (xVar 2) xNil)) (fun x => oF (fltIn x)) wi (by rw [sizeLine_eq]; omega) (fun x hx G => ⟨_, rfl, by
      simp only [↓evD, evU, evV, frz_newN, Option.bind_some, Bool.not_true, Bool.not_false, Bool.and_true, Bool.and_self, decide_true, decide_false, sizeLine_eq, Int.reduceLE, Int.reduceLT, Int.reduceBEq, Int.reduceAdd, Int.reduceSub, Int.cast_ofNat_Int, Int.natCast_zero, Int.natCast_one, List.length_cons, List.length_nil, Nat.reduceLeDiff, Nat.reduceAdd, Nat.reduceEqDiff, List.getElem?_cons_zero, List.getElem?_cons_succ, List.set_cons_zero, List.set_cons_succ, List.append_nil, List.nil_append, List.cons_append, wipeE, gst_F, fault_in_s (n := n + 2) (wrd_asc ha hx) (by have := wrd_len hx; omega)]⟩) (fun x _ => ltD_of (oF_nr _))
    have ni : cmpF .In .non (.tup ((wrds t).map fun x => oF (fltIn x))) η = .ok (.bl (fltsIn (wrds t)).isNone) η := by
      have := non_in_oF (η := η) (l := (wrds t).map fltIn)
      rw [List.map_map, flts_any] at this
      exact this
    cases q : fltsIn (wrds t) with
    | none =>
      rw [q] at ni
      refine fin_x (env := [some (.str t), some (.tup ((wrds t).map fun x => oF (fltIn x))), none]) ?_
      unfold m_read_weather
      simp only [↓evD, evU, evV, frz_newN, Option.bind_some, Bool.not_true, Bool.not_false, Bool.and_true, Bool.and_self, decide_true, decide_false, sizeLine_eq, Int.reduceLE, Int.reduceLT, Int.reduceBEq, Int.reduceAdd, Int.reduceSub, Int.cast_ofNat_Int, Int.natCast_zero, Int.natCast_one, List.length_cons, List.length_nil, Nat.reduceLeDiff, Nat.reduceAdd, Nat.reduceEqDiff, List.getElem?_cons_zero, List.getElem?_cons_succ, List.set_cons_zero, List.set_cons_succ, List.append_nil, List.nil_append, List.cons_append, gst_F, gst_B, c1, z, cm, ni, Option.isNone_none]
    | some w =>
      rw [q, flts_map q] at ni
      rw [flts_map q] at cm
      have wo : Q (n + 4) f_is_weather [.tup (w.map rowD)] η = .ok (.bl (wthB w)) η := is_weather_l
      dsimp only
      cases hw : wthB w with
      | true =>
        rw [if_pos rfl]
        rw [hw] at wo
        refine fin_r ?_
        unfold m_read_weather
        simp only [↓evD, evU, evV, frz_newN, Option.bind_some, Bool.not_true, Bool.not_false, Bool.and_true, Bool.and_self, decide_true, decide_false, sizeLine_eq, Int.reduceLE, Int.reduceLT, Int.reduceBEq, Int.reduceAdd, Int.reduceSub, Int.cast_ofNat_Int, Int.natCast_zero, Int.natCast_one, List.length_cons, List.length_nil, Nat.reduceLeDiff, Nat.reduceAdd, Nat.reduceEqDiff, List.getElem?_cons_zero, List.getElem?_cons_succ, List.set_cons_zero, List.set_cons_succ, List.append_nil, List.nil_append, List.cons_append, gst_F, gst_B, c1, z, cm, ni, Option.isNone_some, wo]
        rfl
      | false =>
        rw [if_neg (by decide)]
        rw [hw] at wo
        refine fin_x (env := [some (.str t), some (.tup (w.map rowD)), none]) ?_
        unfold m_read_weather
        simp only [↓evD, evU, evV, frz_newN, Option.bind_some, Bool.not_true, Bool.not_false, Bool.and_true, Bool.and_self, decide_true, decide_false, sizeLine_eq, Int.reduceLE, Int.reduceLT, Int.reduceBEq, Int.reduceAdd, Int.reduceSub, Int.cast_ofNat_Int, Int.natCast_zero, Int.natCast_one, List.length_cons, List.length_nil, Nat.reduceLeDiff, Nat.reduceAdd, Nat.reduceEqDiff, List.getElem?_cons_zero, List.getElem?_cons_succ, List.set_cons_zero, List.set_cons_succ, List.append_nil, List.nil_append, List.cons_append, gst_F, gst_B, c1, z, cm, ni, Option.isNone_some, wo]
end Mi
end

section
set_option maxRecDepth 100000
set_option maxHeartbeats 4000000
/-! T7: texts of orders and weathers. -/
noncomputable section
namespace Mi
open PySem En Tx
variable {n : Nat} {η : Hv}
theorem strsOf_mapf {α : Type} {f : α → Str} {xs : List α} : strsOf (xs.map fun x => D.str (f x)) = some (xs.map f) := by
  have := strsOf_map (xs.map f)
  rw [List.map_map] at this
  exact this
theorem join_l {α : Type} {f : α → Str} {a : Str} {xs : List α} (h : ((xs.map f).map (·.length)).sum + xs.length * a.length ≤ 16777216) : mtG "str" "join" (.str a) [.lst (xs.map fun x => D.str (f x))] η = .ok (.str (Str.join a (xs.map f))) η := by
  have e : mtG "str" "join" = joinM := by kernel_rfl
  rw [e]
  unfold joinM
  dsimp only
  rw [seq_lst, Option.bind_some, strsOf_mapf]
  dsimp only
  rw [List.length_map, if_pos h]
  show R.ok (D.str (Builtin.Str.glued a _)) _ = _
  rw [StrLaws.glued_eq_join]
theorem add_l {xs ys : List D} (h : xs.length + ys.length ≤ 100000) : binF .Add (.lst xs) (.lst ys) η = newL (xs ++ ys) η := by
  show (if xs.length + ys.length ≤ sizeLine then newL (xs ++ ys) η else .bad) = _
  rw [if_pos (by rw [sizeLine_eq]; omega)]
/-- the words of an order, joined: the last row of both -/
theorem words_run {F : Nat → List D → Hv → R D} {w : Str} {ks : List Nat} {e1 : Exp} {vp : Nat} {env : Ev} (hw : w.length ≤ 10) (hl : ks.length ≤ 8) (hk : ∀ k ∈ ks, k ≤ 9999) (h1 : e1 env η = .ok (.str w) η) (hv : env[vp]? = some (some (.lst (nsD ks)))) (h4 : env.length = 5) :
    xBm (gst F) "join" (xC (.str " ")) (xCons (xFrz (x2 (binF .Add) (xFrz (xLst (xCons e1 xNil))) (xFrz (xComp [4] (iVal (xVar vp)) (gSlot 4) tYesB (xFn (biH .str) (xCons (xVar 4) xNil)))))) xNil) env η = .ok (.str (Str.join (" " : Str) (w :: ks.map nT))) η := by
  have cm := compM (own := [4]) (i := iVal (xVar vp)) (g := gSlot 4) (m := xFn (biH .str) (xCons (xVar 4) xNil)) (env := env) (η := η) (xs := ks) (e := fun k : Nat => .int k) (fun k => .str (nT k)) (wk_lst (by unfold xVar; rw [hv]; rfl) rfl) (by rw [sizeLine_eq]; omega) (fun k hk2 G => ⟨_, rfl, by
    have : ((wipeE env [4]).set 4 (some (D.int k)))[4]? = some (some (D.int k)) := List.getElem?_set_self (by show 4 < (env.set 4 none).length; rw [List.length_set]; omega)
    simp only [↓evD, evU, evV, frz_newN, Option.bind_some, Bool.not_true, Bool.not_false, Bool.and_true, Bool.and_self, decide_true, decide_false, sizeLine_eq, Int.reduceLE, Int.reduceLT, Int.reduceBEq, Int.reduceAdd, Int.reduceSub, Int.cast_ofNat_Int, Int.natCast_zero, Int.natCast_one, List.length_cons, List.length_nil, Nat.reduceLeDiff, Nat.reduceAdd, Nat.reduceEqDiff, List.getElem?_cons_zero, List.getElem?_cons_succ, List.set_cons_zero, List.set_cons_succ, List.append_nil, List.nil_append, List.cons_append, this, str_int (hk k hk2)]⟩) (fun _ _ => rfl)
  have a1 : frz η (newL (D.str w :: ks.map fun k => D.str (nT k)) η) = .ok (.lst (D.str w :: ks.map fun k => D.str (nT k))) η := frz_newN (by rw [nr_cons, noRefs_map fun _ _ => rfl]; rfl)
  have a2 : binF .Add (.lst [.str w]) (.lst (ks.map fun k => D.str (nT k))) η = newL (D.str w :: ks.map fun k => D.str (nT k)) η := add_l (by rw [List.length_map]; simp; omega)
  have j : mtG "str" "join" (.str " ") [.lst (D.str w :: ks.map fun k => D.str (nT k))] η = .ok (.str (Str.join (" " : Str) (w :: ks.map nT))) η := by
    have := join_l (η := η) (f := fun x : Str => x) (a := (" " : Str)) (xs := w :: ks.map nT) (by
      have := ksum hk
      have e1 : ((" " : Str)).length = 1 := by kernel_rfl
      rw [List.map_id', e1, List.map_cons, List.sum_cons, List.length_cons, List.length_map]
      omega)
    rw [List.map_id', List.map_cons, List.map_map] at this
    exact this
  simp only [↓evD, evU, evV, frz_newN, Option.bind_some, Bool.not_true, Bool.not_false, Bool.and_true, Bool.and_self, decide_true, decide_false, sizeLine_eq, Int.reduceLE, Int.reduceLT, Int.reduceBEq, Int.reduceAdd, Int.reduceSub, Int.cast_ofNat_Int, Int.natCast_zero, Int.natCast_one, List.length_cons, List.length_nil, Nat.reduceLeDiff, Nat.reduceAdd, Nat.reduceEqDiff, List.getElem?_cons_zero, List.getElem?_cons_succ, List.set_cons_zero, List.set_cons_succ, List.append_nil, List.nil_append, List.cons_append, gst_M, gst_mok, mok_join, h1, cm, a2, a1, j]
theorem written_od {o : Od} (hok : o.ok) : Q (n + 1) f_written [o.d] η = .ok (.str (oT o)) η := by
  obtain ⟨k1, k2⟩ := ns_ok hok
  rw [u_written]
  refine fin_r ?_
  unfold m_written
  have c3 : ∀ η : Hv, cmpF .Eq (.str o.w) (.str "group") η = .ok (.bl (o.w == "group")) η := fun η => eq_s (asc_ow o) (by decide +kernel)
  have sf : ∀ env : Ev, gStarF (gSlot 1) (gSlot 2) o.d env η = .ok ((env.set 1 (some (.str o.w))).set 2 (some (.lst o.args))) η := fun env => by
    show (if o.args.length ≤ 16000 then (gSlot 1 (.str o.w) env η).bind (fun e1 η1 => gSlot 2 (.lst o.args) e1 η1) else .bad) = _
    rw [if_pos (by cases o <;> exact Nat.le_of_ble_eq_true rfl)]
    rfl
  have key : ∀ (a b c d : Option D), xBm (gst (Q n)) "join" (xC (.str " ")) (xCons (xFrz (x2 (binF .Add) (xFrz (xLst (xCons (xVar 1) xNil))) (xFrz (xComp [4] (iVal (xVar 2)) (gSlot 4) tYesB (xFn (biH .str) (xCons (xVar 4) xNil)))))) xNil) [a, some (.str o.w), some (.lst (nsD o.ns)), c, d] η = .ok (.str (oT o)) η := fun a b c d =>
    words_run (by have := odw_len o; omega) k2 k1 rfl rfl rfl
  generalize xBm (gst (Q n)) "join" (xC (.str " ")) (xCons (xFrz (x2 (binF .Add) (xFrz (xLst (xCons (xVar 1) xNil))) (xFrz (xComp [4] (iVal (xVar 2)) (gSlot 4) tYesB (xFn (biH .str) (xCons (xVar 4) xNil)))))) xNil) = last at key ⊢
  by_cases hg : ∃ rows, o = .group rows
  · obtain ⟨rows, rfl⟩ := hg
    have z : ((Od.group rows).w == "group") = true := by kernel_rfl
    have e0 : (Od.group rows).args = [.tup (rows.map prD)] := rfl
    rw [e0] at sf
    have c2 := comp2_f (own := [3, 4]) (own1 := [3, 4]) (i := iVal (xIx (xVar 2) (xC (.int 0)))) (g := gSlot 3) (i1 := iVal (xVar 3)) (g1 := gSlot 4) (m := xVar 4) (env := [some (Od.d (.group rows)), some (.str (Od.w (.group rows))), some (.lst [.tup (rows.map prD)]), none, none]) (η := η) (xs := rows) (ys := fun r => [r.1, r.2]) (e := prD) (e1 := fun k : Nat => .int k) (fun k : Nat => .int k) (fun r => [some (Od.d (.group rows)), some (.str (Od.w (.group rows))), some (.lst [.tup (rows.map prD)]), some (prD r), none])
      (wk_tup (by simp only [↓evD, evU, evV, frz_newN, Option.bind_some, Bool.not_true, Bool.not_false, Bool.and_true, Bool.and_self, decide_true, decide_false, sizeLine_eq, Int.reduceLE, Int.reduceLT, Int.reduceBEq, Int.reduceAdd, Int.reduceSub, Int.cast_ofNat_Int, Int.natCast_zero, Int.natCast_one, List.length_cons, List.length_nil, Nat.reduceLeDiff, Nat.reduceAdd, Nat.reduceEqDiff, List.getElem?_cons_zero, List.getElem?_cons_succ, List.set_cons_zero, List.set_cons_succ, List.append_nil, List.nil_append, List.cons_append]) rfl) (by rw [flat_len, sizeLine_eq]; have := hok.2.1; omega) (fun r hr G => rfl) (fun r hr G => wk_tup (ds := [.int r.1, .int r.2]) rfl rfl) (fun r hr y hy G => ⟨_, rfl, rfl⟩)
    have c4 : frz η (xComp2 [3, 4] [3, 4] (iVal (xIx (xVar 2) (xC (.int 0)))) (gSlot 3) tYesB (iVal (xVar 3)) (gSlot 4) tYesB (xVar 4) [some (Od.d (.group rows)), some (.str (Od.w (.group rows))), some (.lst [.tup (rows.map prD)]), none, none] η) = .ok (.lst (nsD (Od.ns (.group rows)))) η := by
      rw [c2]
      exact frz_lst (G := []) (ltL_of nsD_nr) rfl id
    have k5 := key (some (Od.d (.group rows))) none none none
    simp only [↓evD, evU, evV, frz_newN, Option.bind_some, Bool.not_true, Bool.not_false, Bool.and_true, Bool.and_self, decide_true, decide_false, sizeLine_eq, Int.reduceLE, Int.reduceLT, Int.reduceBEq, Int.reduceAdd, Int.reduceSub, Int.cast_ofNat_Int, Int.natCast_zero, Int.natCast_one, List.length_cons, List.length_nil, Nat.reduceLeDiff, Nat.reduceAdd, Nat.reduceEqDiff, List.getElem?_cons_zero, List.getElem?_cons_succ, List.set_cons_zero, List.set_cons_succ, List.append_nil, List.nil_append, List.cons_append, sf, c3, z, c4, k5]
  · have z : (o.w == "group") = false := beq_no (by
      cases o with
      | group rows => exact (hg ⟨rows, rfl⟩).elim
      | _ => exact w_ne (by kernel_rfl))
    have e0 : o.args = nsD o.ns := od_plain fun rows e => hg ⟨rows, e⟩
    rw [e0] at sf
    have k5 := key (some o.d) none none none
    simp only [↓evD, evU, evV, frz_newN, Option.bind_some, Bool.not_true, Bool.not_false, Bool.and_true, Bool.and_self, decide_true, decide_false, sizeLine_eq, Int.reduceLE, Int.reduceLT, Int.reduceBEq, Int.reduceAdd, Int.reduceSub, Int.cast_ofNat_Int, Int.natCast_zero, Int.natCast_one, List.length_cons, List.length_nil, Nat.reduceLeDiff, Nat.reduceAdd, Nat.reduceEqDiff, List.getElem?_cons_zero, List.getElem?_cons_succ, List.set_cons_zero, List.set_cons_succ, List.append_nil, List.nil_append, List.cons_append, sf, c3, z, k5]
theorem order_text_od {o : Od} (hok : o.ok) : Q (n + 7) f_order_text [o.d] η = .ok (.str (oT o)) η := by
  rw [u_order_text]
  refine fin_r ?_
  unfold m_order_text
  simp only [↓evD, evU, evV, frz_newN, Option.bind_some, Bool.not_true, Bool.not_false, Bool.and_true, Bool.and_self, decide_true, decide_false, sizeLine_eq, Int.reduceLE, Int.reduceLT, Int.reduceBEq, Int.reduceAdd, Int.reduceSub, Int.cast_ofNat_Int, Int.natCast_zero, Int.natCast_one, List.length_cons, List.length_nil, Nat.reduceLeDiff, Nat.reduceAdd, Nat.reduceEqDiff, List.getElem?_cons_zero, List.getElem?_cons_succ, List.set_cons_zero, List.set_cons_succ, List.append_nil, List.nil_append, List.cons_append, gst_F, shape_od hok, written_od hok]
/-! ### weathers -/
theorem app_at {d : D} {xs : List D} (h : xs.length < 100000) : mtG "list" "append" (.ref η.length) [d] (η ++ [O.lst xs]) = .ok .non (η ++ [O.lst (xs ++ [d])]) := by
  have e : mtG "list" "append" = appM := by kernel_rfl
  rw [e]
  unfold appM
  dsimp only
  rw [at_len]
  dsimp only
  rw [if_pos (by rw [sizeLine_eq]; omega), set_len]
theorem kind_at {xs : List D} : kindB (η ++ [O.lst xs]) (.ref η.length) = some "list" := by
  unfold kindB
  dsimp only
  rw [at_len]
theorem join_at {α : Type} {f : α → Str} {a : Str} {xs : List α} (h : ((xs.map f).map (·.length)).sum + xs.length * a.length ≤ 16777216) : mtG "str" "join" (.str a) [.ref η.length] (η ++ [O.lst (xs.map fun x => D.str (f x))]) = .ok (.str (Str.join a (xs.map f))) (η ++ [O.lst (xs.map fun x => D.str (f x))]) := by
  have e : mtG "str" "join" = joinM := by kernel_rfl
  rw [e]
  unfold joinM
  dsimp only
  have h0 : lstOf (η ++ [O.lst (xs.map fun x => D.str (f x))]) (.ref η.length) = some (xs.map fun x => D.str (f x)) := by
    unfold lstOf
    dsimp only
    rw [at_len]
  rw [show seqOf (η ++ [O.lst (xs.map fun x => D.str (f x))]) (.ref η.length) = some (xs.map fun x => D.str (f x)) from h0, Option.bind_some, strsOf_mapf]
  dsimp only
  rw [List.length_map, if_pos h]
  show R.ok (D.str (Builtin.Str.glued a _)) _ = _
  rw [StrLaws.glued_eq_join]
theorem weather_text_w {w : List (Nat × Fl)} (hw : WOk w) : Q (n + 6) f_weather_text [wD w] η = .ok (.str (wT w)) η := by
  obtain ⟨w1, w2, w3⟩ := hw
  rw [u_weather_text]
  obtain ⟨env', η', f1, s2, s3, s4, s5, f2, f3⟩ := for_ok (i := iVal (xVar 0)) (g := gTupl 2 (gsCons (gSlot 2) (gsCons (gStarF (gSlot 3) (gSlot 4)) gsNil)))
    (s := sSeq (sExp (xBm (gst (Q (n + 5))) "append" (xVar 1) (xCons (xFrz (x2 (binF .Add) (xJoin [x1 fmtD (xVar 2), x1 fmtD (xC (.str ":")), x1 fmtD (xVar 3)]) (xBm (gst (Q (n + 5))) "join" (xC (.str "")) (xCons (xFrz (xComp [5] (iVal (xVar 4)) (gSlot 5) tYesB (xFn (biH .str) (xCons (xVar 5) xNil)))) xNil)))) xNil))) sPass)
    (xs := w) (e := rowD) (env := [some (wD w), some (.ref η.length), none, none, none, none]) (η := η ++ [O.lst []])
    (fun done env η' => ∃ s2 s3 s4 s5, env = [some (wD w), some (.ref η.length), s2, s3, s4, s5] ∧ η' = η ++ [O.lst (done.map fun r => D.str (rowT r))])
    (wk_tup rfl rfl) ⟨none, none, none, none, rfl, rfl⟩ (fun done r rest hxs env η' hP => by
      obtain ⟨s2, s3, s4, s5, rfl, rfl⟩ := hP
      have hr : r ∈ w := by rw [hxs]; simp
      obtain ⟨k1, k2⟩ := w2 r hr
      have hd : done.length < 100000 := by
        have := congrArg List.length hxs
        rw [List.length_append, List.length_cons] at this
        omega
      have nsl : r.2.ns.length ≤ 1 := by cases r.2 <;> first | exact Nat.le_refl _ | exact Nat.zero_le _
      have st1 : ∀ η1 : Hv, gTupl 2 (gsCons (gSlot 2) (gsCons (gStarF (gSlot 3) (gSlot 4)) gsNil)) (rowD r) [some (wD w), some (.ref η.length), s2, s3, s4, s5] η1 = .ok [some (wD w), some (.ref η.length), some (.int r.1), some (.str r.2.w), some (.lst (nsD r.2.ns)), s5] η1 := fun η1 => by
        cases r with
        | mk st f => cases f <;> rfl
      refine ⟨_, _, ?_, some (.int r.1), some (.str r.2.w), some (.lst (nsD r.2.ns)), s5, rfl, rfl⟩
      unfold stepS
      rw [st1]
      dsimp only
      have l1 := nT_len k1
      have l2 : ((":" : Str)).length = 1 := by kernel_rfl
      have l3 := flw_len r.2
      have l4 := ns_join r.2 k2
      have z1 : decide ((Str.empty ++ nT r.1).length ≤ sizeLine) = true := decide_eq_true (by rw [app_len, empty_len, sizeLine_eq]; omega)
      have z2 : decide (((Str.empty ++ nT r.1) ++ (":" : Str)).length ≤ sizeLine) = true := decide_eq_true (by rw [app_len, app_len, empty_len, sizeLine_eq]; omega)
      have z3 : decide ((((Str.empty ++ nT r.1) ++ (":" : Str)) ++ r.2.w).length ≤ sizeLine) = true := decide_eq_true (by rw [app_len, app_len, app_len, empty_len, sizeLine_eq]; omega)
      rw [sizeLine_eq] at z1 z2 z3
      have f1 : ∀ η : Hv, fmtD (.str (":" : Str)) η = .ok (.str ":") η := fun η => fmt_str (by omega)
      have f2 : ∀ η : Hv, fmtD (.str r.2.w) η = .ok (.str r.2.w) η := fun η => fmt_str (by omega)
      have kk : kindB (η ++ [O.lst (done.map fun r => D.str (rowT r))]) (.ref η.length) = some "list" := kind_at
      have pp := app_at (η := η) (d := .str (rowT r)) (xs := done.map fun r => D.str (rowT r)) (by rw [List.length_map]; exact hd)
      have ee : (done.map fun r => D.str (rowT r)) ++ [.str (rowT r)] = (done ++ [r]).map fun r => D.str (rowT r) := by rw [List.map_append]; rfl
      rw [ee] at pp
      generalize η ++ [O.lst (done.map fun r => D.str (rowT r))] = η1 at *
      have cm := compM (own := [5]) (i := iVal (xVar 4)) (g := gSlot 5) (m := xFn (biH .str) (xCons (xVar 5) xNil)) (env := [some (wD w), some (.ref η.length), some (.int r.1), some (.str r.2.w), some (.lst (nsD r.2.ns)), s5]) (η := η1) (xs := r.2.ns) (e := fun k : Nat => .int k) (fun k => .str (nT k)) (wk_lst rfl rfl) (by rw [sizeLine_eq]; omega) (fun k hk2 G => ⟨_, rfl, by
        simp only [↓evD, evU, evV, frz_newN, Option.bind_some, Bool.not_true, Bool.not_false, Bool.and_true, Bool.and_self, decide_true, decide_false, sizeLine_eq, Int.reduceLE, Int.reduceLT, Int.reduceBEq, Int.reduceAdd, Int.reduceSub, Int.cast_ofNat_Int, Int.natCast_zero, Int.natCast_one, List.length_cons, List.length_nil, Nat.reduceLeDiff, Nat.reduceAdd, Nat.reduceEqDiff, List.getElem?_cons_zero, List.getElem?_cons_succ, List.set_cons_zero, List.set_cons_succ, List.append_nil, List.nil_append, List.cons_append, wipeE, str_int (fln_ok k2 k hk2)]⟩) (fun _ _ => rfl)
      have j1 := join_l (η := η1) (f := nT) (a := ("" : Str)) (xs := r.2.ns) (by
        rw [show ((("" : Str).length) = 0) from rfl]
        have : ((r.2.ns.map nT).map (·.length)).sum ≤ 4 := by
          cases hf : r.2 with
          | bit b =>
            rw [hf] at k2
            have : b < 47 := k2
            show (nT b).length + 0 ≤ 4
            have := nT_len (n := b) (by omega)
            omega
          | _ => exact Nat.zero_le _
        omega)
      have a1 : ∀ η : Hv, binF .Add (.str (((Str.empty ++ nT r.1) ++ (":" : Str)) ++ r.2.w)) (.str (Str.join ("" : Str) (r.2.ns.map nT))) η = .ok (.str (rowT r)) η := fun η => add_str (by
        rw [app_len, app_len, app_len, empty_len]
        omega)
      simp only [↓evD, evU, evV, frz_newN, Option.bind_some, Bool.not_true, Bool.not_false, Bool.and_true, Bool.and_self, decide_true, decide_false, sizeLine_eq, Int.reduceLE, Int.reduceLT, Int.reduceBEq, Int.reduceAdd, Int.reduceSub, Int.cast_ofNat_Int, Int.natCast_zero, Int.natCast_one, List.length_cons, List.length_nil, Nat.reduceLeDiff, Nat.reduceAdd, Nat.reduceEqDiff, List.getElem?_cons_zero, List.getElem?_cons_succ, List.set_cons_zero, List.set_cons_succ, List.append_nil, List.nil_append, List.cons_append, gst_M, gst_mok, kk, mok_app, mok_join, fmt_int k1, z1, f1, z2, f2, z3, cm, j1, a1, pp])
  subst f2 f3
  have j2 := join_at (η := η) (f := rowT) (a := (" " : Str)) (xs := w) (by
    have := wsum w2
    have e1 : ((" " : Str)).length = 1 := by kernel_rfl
    rw [e1]
    omega)
  refine fin_v (G := [O.lst (w.map fun r => D.str (rowT r))]) ?_ rfl rfl id
  unfold m_weather_text
  have nw := need_weather_ok (n := n) (η := η) (w := w) ⟨w1, w2, w3⟩
  have tr : ∀ η : Hv, truB η (.str (Str.join (" " : Str) (w.map rowT))) = some (!decide (w = [])) := fun η => by
    have b := StrLaws.join_length_le (" " : Str) (w.map rowT)
    have s1 := wsum w2
    have e1 : ((" " : Str)).length = 1 := by kernel_rfl
    rw [List.length_map, e1] at b
    show (if (Str.join (" " : Str) (w.map rowT)).length ≤ sizeLine then some (((Str.join (" " : Str) (w.map rowT)).length : Int) != 0) else none) = _
    rw [if_pos (by rw [sizeLine_eq]; omega)]
    cases w with
    | nil => rfl
    | cons r rest =>
      have : 0 < (Str.join (" " : Str) ((r :: rest).map rowT)).length := by
        have h0 : 0 < (rowT r).length := by
          unfold rowT
          rw [app_len, app_len, flw_len]
          omega
        cases rest with
        | nil => exact h0
        | cons r2 rest2 =>
          show 0 < (rowT r ++ (" " : Str) ++ _).length
          rw [app_len, app_len]
          omega
      have z : (((Str.join (" " : Str) ((r :: rest).map rowT)).length : Int) != 0) = true := by
        rw [bne_iff_ne]
        omega
      rw [z]
      rfl
  unfold wT
  by_cases hw0 : w = []
  · rw [if_pos hw0]
    rw [decide_eq_true hw0] at tr
    simp only [↓evD, evU, evV, frz_newN, Option.bind_some, Bool.not_true, Bool.not_false, Bool.and_true, Bool.and_self, decide_true, decide_false, sizeLine_eq, Int.reduceLE, Int.reduceLT, Int.reduceBEq, Int.reduceAdd, Int.reduceSub, Int.cast_ofNat_Int, Int.natCast_zero, Int.natCast_one, List.length_cons, List.length_nil, Nat.reduceLeDiff, Nat.reduceAdd, Nat.reduceEqDiff, List.getElem?_cons_zero, List.getElem?_cons_succ, List.set_cons_zero, List.set_cons_succ, List.append_nil, List.nil_append, List.cons_append, gst_F, nw, newL, f1, gst_M, gst_mok, mok_join, j2, tr]
  · rw [if_neg hw0]
    rw [decide_eq_false hw0] at tr
    simp only [↓evD, evU, evV, frz_newN, Option.bind_some, Bool.not_true, Bool.not_false, Bool.and_true, Bool.and_self, decide_true, decide_false, sizeLine_eq, Int.reduceLE, Int.reduceLT, Int.reduceBEq, Int.reduceAdd, Int.reduceSub, Int.cast_ofNat_Int, Int.natCast_zero, Int.natCast_one, List.length_cons, List.length_nil, Nat.reduceLeDiff, Nat.reduceAdd, Nat.reduceEqDiff, List.getElem?_cons_zero, List.getElem?_cons_succ, List.set_cons_zero, List.set_cons_succ, List.append_nil, List.nil_append, List.cons_append, gst_F, nw, newL, f1, gst_M, gst_mok, mok_join, j2, tr]
end Mi
end

section
set_option maxRecDepth 100000
set_option maxHeartbeats 4000000
/-! L1: the laws' own choices. -/
noncomputable section
namespace Mi
open PySem En Tx
variable {n p : Nat} {η : Hv} {s : S3}
theorem st3_set (s s2 : S3) (h : η[p]? = some (st3 s)) : (η.set p (st3 s2))[p]? = some (st3 s2) := get_set h
theorem gd_st (s2 : S3) : gd η → gd (η.set p (st3 s2)) := gd_set rfl
theorem choice_ok {m : Nat} (h : η[p]? = some (st3 s)) (hm : 0 < m) (hm2 : m < 1073741824) : Q (n + 1) f__law_choice [.ref p, .int m] η = .ok (.int (chN s m : Nat)) (η.set p (st3 (chS s m))) := by
  obtain ⟨a, b, c⟩ := s
  have f0 : ∀ s : S3, ∀ η : Hv, η[p]? = some (st3 s) → sixD (.ref p) (.int 0) η = .ok (.int s.a) η := fun s η h => six_of (j := 0) h rfl
  have f1 : ∀ s : S3, ∀ η : Hv, η[p]? = some (st3 s) → sixD (.ref p) (.int 1) η = .ok (.int s.b) η := fun s η h => six_of (j := 1) h rfl
  have f2 : ∀ s : S3, ∀ η : Hv, η[p]? = some (st3 s) → sixD (.ref p) (.int 2) η = .ok (.int s.c) η := fun s η h => six_of (j := 2) h rfl
  have s0 : ∀ s : S3, ∀ x : Int, ∀ η : Hv, η[p]? = some (st3 s) → setItemD (.ref p) (.int 0) (.int x) η = .ok () (η.set p (st3 ⟨x, s.b, s.c⟩)) := fun s x η h => setl_of (j := 0) h (by show 0 < 3; omega)
  have s1 : ∀ s : S3, ∀ x : Int, ∀ η : Hv, η[p]? = some (st3 s) → setItemD (.ref p) (.int 1) (.int x) η = .ok () (η.set p (st3 ⟨s.a, x, s.c⟩)) := fun s x η h => setl_of (j := 1) h (by show 1 < 3; omega)
  have s2 : ∀ s : S3, ∀ x : Int, ∀ η : Hv, η[p]? = some (st3 s) → setItemD (.ref p) (.int 2) (.int x) η = .ok () (η.set p (st3 ⟨s.a, s.b, x⟩)) := fun s x η h => setl_of (j := 2) h (by show 2 < 3; omega)
  have d0 := dct_of h
  have hm' : (0 : Int) < (m : Int) := by omega
  have hm2' : (m : Int) < 1073741824 := by omega
  rw [u__law_choice]
  by_cases ha : 0 < a
  · have e1 : chN ⟨a, b, c⟩ m = (a % (m : Int)).toNat := if_pos ha
    have e2 : chS ⟨a, b, c⟩ m = ⟨a / (m : Int), b, c⟩ := if_pos ha
    have e3 : (((a % (m : Int)).toNat : Nat) : Int) = a % (m : Int) := Int.toNat_of_nonneg (Int.emod_nonneg _ (by omega))
    rw [e1, e2, e3]
    refine fin_ret (η1 := η.set p (st3 ⟨a / (m : Int), b, c⟩)) ?_ (List.length_set ..)
    unfold m__law_choice
    simp only [↓evD, evU, evV, frz_newN, Option.bind_some, Bool.not_true, Bool.not_false, Bool.and_true, Bool.and_self, decide_true, decide_false, sizeLine_eq, Int.reduceLE, Int.reduceLT, Int.reduceBEq, Int.reduceAdd, Int.reduceSub, Int.cast_ofNat_Int, Int.natCast_zero, Int.natCast_one, List.length_cons, List.length_nil, Nat.reduceLeDiff, Nat.reduceAdd, Nat.reduceEqDiff, List.getElem?_cons_zero, List.getElem?_cons_succ, List.set_cons_zero, List.set_cons_succ, List.append_nil, List.nil_append, List.cons_append, d0, f0 _ _ h, decide_eq_true ha, mod_int hm', div_int hm' hm2', s0 _ _ _ h]
  · have ha' : decide (0 < a) = false := decide_eq_false ha
    have e1 : chN ⟨a, b, c⟩ m = (((chM ⟨a, b, c⟩ * chM ⟨a, b, c⟩ + 50021 * chM ⟨a, b, c⟩) % 2147483587) / 8 % (m : Int)).toNat := if_neg ha
    have e2 : chS ⟨a, b, c⟩ m = ⟨a, chB ⟨a, b, c⟩, c + 1⟩ := if_neg ha
    obtain ⟨h1, h2⟩ := chB_lt ⟨a, b, c⟩
    obtain ⟨h3, h4⟩ := chM_lt ⟨a, b, c⟩
    have hB : (b * 48271 + 29 + (c + 1)) % 2147483647 = chB ⟨a, b, c⟩ := rfl
    have hM : (chB ⟨a, b, c⟩ * chB ⟨a, b, c⟩ + 39373 * chB ⟨a, b, c⟩ + 7) % 2147483629 = chM ⟨a, b, c⟩ := rfl
    rw [e1, e2, Int.toNat_of_nonneg (Int.emod_nonneg _ (by omega))]
    generalize chB ⟨a, b, c⟩ = b1 at *
    generalize chM ⟨a, b, c⟩ = m1 at *
    have hp1 : (η.set p (st3 ⟨a, b, c + 1⟩))[p]? = some (st3 ⟨a, b, c + 1⟩) := get_set h
    have hp2 : ((η.set p (st3 ⟨a, b, c + 1⟩)).set p (st3 ⟨a, b1, c + 1⟩))[p]? = some (st3 ⟨a, b1, c + 1⟩) := get_set hp1
    have d1 := dct_of hp1
    have d2 := dct_of hp2
    have k1 : small 48271 = true := by decide
    have k2 : small 39373 = true := by decide
    have k3 : small 50021 = true := by decide
    have k4 := small_of h1 h2
    have k5 := small_of h3 h4
    have q1 : ∀ η : Hv, binF .Mult (.int b) (.int 48271) η = .ok (.int (b * 48271)) η := fun η => mul_int (by rw [k1, Bool.or_true])
    have q2 : ∀ η : Hv, binF .Mult (.int b1) (.int b1) η = .ok (.int (b1 * b1)) η := fun η => mul_int (by rw [k4, Bool.or_true])
    have q3 : ∀ η : Hv, binF .Mult (.int 39373) (.int b1) η = .ok (.int (39373 * b1)) η := fun η => mul_int (by rw [k2, Bool.true_or])
    have q4 : ∀ η : Hv, binF .Mult (.int m1) (.int m1) η = .ok (.int (m1 * m1)) η := fun η => mul_int (by rw [k5, Bool.or_true])
    have q5 : ∀ η : Hv, binF .Mult (.int 50021) (.int m1) η = .ok (.int (50021 * m1)) η := fun η => mul_int (by rw [k3, Bool.true_or])
    have r1 : ∀ η : Hv, binF .Mod (.int (b * 48271 + 29 + (c + 1))) (.int 2147483647) η = .ok (.int b1) η := fun η => by rw [mod_int (by omega), hB]
    have r2 : ∀ η : Hv, binF .Mod (.int (b1 * b1 + 39373 * b1 + 7)) (.int 2147483629) η = .ok (.int m1) η := fun η => by rw [mod_int (by omega), hM]
    have r3 : ∀ (i : Int) (η : Hv), binF .Mod (.int i) (.int 2147483587) η = .ok (.int (i % 2147483587)) η := fun i η => mod_int (by omega)
    have r4 : ∀ (i : Int) (η : Hv), binF .FloorDiv (.int i) (.int 8) η = .ok (.int (i / 8)) η := fun i η => div_int (by omega) (by omega)
    refine fin_ret (η1 := η.set p (st3 ⟨a, b1, c + 1⟩)) ?_ (List.length_set ..)
    have e : m__law_choice (Q n) [some (.ref p), some (.int m), none, none] η = .ret (.int (((m1 * m1 + 50021 * m1) % 2147483587) / 8 % m)) ((η.set p (st3 ⟨a, b, c + 1⟩)).set p (st3 ⟨a, b1, c + 1⟩)) := by
      unfold m__law_choice
      simp only [↓evD, evU, evV, frz_newN, Option.bind_some, Bool.not_true, Bool.not_false, Bool.and_true, Bool.and_self, decide_true, decide_false, sizeLine_eq, Int.reduceLE, Int.reduceLT, Int.reduceBEq, Int.reduceAdd, Int.reduceSub, Int.cast_ofNat_Int, Int.natCast_zero, Int.natCast_one, List.length_cons, List.length_nil, Nat.reduceLeDiff, Nat.reduceAdd, Nat.reduceEqDiff, List.getElem?_cons_zero, List.getElem?_cons_succ, List.set_cons_zero, List.set_cons_succ, List.append_nil, List.nil_append, List.cons_append, d0, f0 _ _ h, ha', f2 _ _ h, plus_int, s2 _ _ _ h, d1, f1 _ _ hp1, f2 _ _ hp1, q1, r1, s1 _ _ _ hp1, d2, f1 _ _ hp2, q2, q3, r2, q4, q5, r3, r4, mod_int hm']
    rw [List.set_set] at e
    exact e
end Mi
end

section
set_option maxRecDepth 100000
set_option maxHeartbeats 4000000
/-! L2x: any order, any weather (of the laws of texts). -/
noncomputable section
namespace Mi
open PySem En Tx
variable {n p : Nat} {η : Hv} {s : S3}
def planD : D := .tup [.int 8, .int 8, .int 16, .bl true, .bl true]
/-- the heap amid the making of a group -/
def lay (A : Hv) (ps : List Nat) (rows : List (Nat × Nat)) : Hv := A ++ [O.lst (ps.map fun k : Nat => D.int k), O.lst (rows.map prD)]
section
variable {A : Hv} {ps : List Nat} {rows : List (Nat × Nat)}
theorem lay_q : (lay A ps rows)[A.length]? = some (.lst (ps.map fun k : Nat => D.int k)) := at_len
theorem lay_r : (lay A ps rows)[A.length + 1]? = some (.lst (rows.map prD)) := by
  unfold lay
  rw [List.getElem?_append_right (by omega), show A.length + 1 - A.length = 1 by omega]
  rfl
theorem lay_setq {ps2 : List Nat} : (lay A ps rows).set A.length (.lst (ps2.map fun k : Nat => D.int k)) = lay A ps2 rows := set_len
theorem lay_setr {rows2 : List (Nat × Nat)} : (lay A ps rows).set (A.length + 1) (.lst (rows2.map prD)) = lay A ps rows2 := by
  unfold lay
  rw [List.set_append_right _ _ (by omega), show A.length + 1 - A.length = 1 by omega]
  rfl
end
theorem erase_map {α β : Type} {f : α → β} : ∀ {l : List α} {j : Nat}, (l.map f).eraseIdx j = (l.eraseIdx j).map f
  | [], _ => rfl
  | _ :: _, 0 => rfl
  | a :: r, j + 1 => by
    show f a :: (r.map f).eraseIdx j = f a :: (r.eraseIdx j).map f
    rw [erase_map]
theorem choice_lay {m : Nat} {A : Hv} {ps : List Nat} {rows : List (Nat × Nat)} (h : A[p]? = some (st3 s)) (hm : 0 < m) (hm2 : m < 1073741824) : Q (n + 1) f__law_choice [.ref p, .int m] (lay A ps rows) = .ok (.int (chN s m : Nat)) (lay (A.set p (st3 (chS s m))) ps rows) := by
  unfold lay
  rw [choice_ok (get_app h) hm hm2, set_app h]
/-- a row more: k left places, rows made -/
theorem row_run {A : Hv} {ps : List Nat} {rows : List (Nat × Nat)} {env : Ev} {N : Nat} (h : A[p]? = some (st3 s)) (hn : A.length = N) (hps : 1 ≤ ps.length) (hpl : ps.length ≤ 16) (hr : rows.length ≤ 16) (e0 : env[0]? = some (some (.ref p))) (e5 : env[5]? = some (some (.ref N))) (e6 : env[6]? = some (some (.ref (N + 1)))) :
    sSeq (sExp (xBm (gst (Q (n + 1))) "append" (xVar 6) (xCons (xTup (xCons (xBm (gst (Q (n + 1))) "pop" (xVar 5) (xCons (xCall (gst (Q (n + 1))) f__law_choice [] (xCons (xVar 0) (xCons (xFn (biH .len) (xCons (xVar 5) xNil)) xNil))) xNil)) (xCons (xCall (gst (Q (n + 1))) f__law_choice [] (xCons (xVar 0) (xCons (xC (.int 64)) xNil))) xNil))) xNil))) sPass
      env (lay A ps rows) = .nxt env (lay (A.set p (st3 (chS (chS s ps.length) 64))) (ps.eraseIdx (chN s ps.length)) (rows ++ [(ps.getD (chN s ps.length) 0, chN (chS s ps.length) 64)])) := by
  subst hn
  have k3 := choice_lay (n := n) (m := ps.length) (ps := ps) (rows := rows) h (by omega) (by omega)
  have hj : chN s ps.length < ps.length := chN_lt (by omega)
  generalize hjj : chN s ps.length = j at *
  have hx : ps[j]? = some (ps.getD j 0) := by rw [List.getD_eq_getElem?_getD, List.getElem?_eq_getElem hj]; rfl
  generalize ps.getD j 0 = x at *
  have hp1 : (A.set p (st3 (chS s ps.length)))[p]? = some (st3 (chS s ps.length)) := get_set h
  have A1 : A.length = (A.set p (st3 (chS s ps.length))).length := (List.length_set ..).symm
  have l3 : Q (n + 1) f__law_choice [.ref p, .int 64] (lay (A.set p (st3 (chS s ps.length))) (ps.eraseIdx j) rows) = .ok (.int (chN (chS s ps.length) 64 : Nat)) (lay ((A.set p (st3 (chS s ps.length))).set p (st3 (chS (chS s ps.length) 64))) (ps.eraseIdx j) rows) := choice_lay (n := n) (m := 64) (ps := ps.eraseIdx j) (rows := rows) hp1 (by omega) (by omega)
  rw [List.set_set] at l3
  generalize chS s ps.length = s1 at *
  have A2 : A.length = (A.set p (st3 (chS s1 64))).length := (List.length_set ..).symm
  have kr : kindB (lay A ps rows) (.ref (A.length + 1)) = some "list" := kind_of lay_r
  have kq : kindB (lay A ps rows) (.ref A.length) = some "list" := kind_of lay_q
  have lq : biH .len [.ref A.length] (lay A ps rows) = .ok (.int ps.length) (lay A ps rows) := by
    rw [len_of lay_q, List.length_map]
  have pq : mtG "list" "pop" (.ref A.length) [.int (j : Nat)] (lay (A.set p (st3 s1)) ps rows) = .ok (.int x) (lay (A.set p (st3 s1)) (ps.eraseIdx j) rows) := by
    have := pop_of (η := lay (A.set p (st3 s1)) ps rows) (p := (A.set p (st3 s1)).length) (j := j) (x := .int x) lay_q (by rw [List.getElem?_map, hx]; rfl) (by rw [List.length_map]; omega)
    rw [← A1] at this
    rw [this]
    congr 1
    rw [A1, erase_map]
    exact lay_setq
  have ar : mtG "list" "append" (.ref (A.length + 1)) [.tup [.int x, .int (chN s1 64 : Nat)]] (lay (A.set p (st3 (chS s1 64))) (ps.eraseIdx j) rows) = .ok .non (lay (A.set p (st3 (chS s1 64))) (ps.eraseIdx j) (rows ++ [(x, chN s1 64)])) := by
    have := app_of (η := lay (A.set p (st3 (chS s1 64))) (ps.eraseIdx j) rows) (p := (A.set p (st3 (chS s1 64))).length + 1) (d := .tup [.int x, .int (chN s1 64 : Nat)]) lay_r (by rw [List.length_map]; omega)
    rw [← A2] at this
    rw [this]
    congr 1
    have e : rows.map prD ++ [D.tup [.int x, .int (chN s1 64 : Nat)]] = (rows ++ [(x, chN s1 64)]).map prD := by
      rw [List.map_append]
      rfl
    rw [e, A2]
    exact lay_setr
  simp only [↓evD, evU, evV, frz_newN, Option.bind_some, Bool.not_true, Bool.not_false, Bool.and_true, Bool.and_self, decide_true, decide_false, sizeLine_eq, Int.reduceLE, Int.reduceLT, Int.reduceBEq, Int.reduceAdd, Int.reduceSub, Int.cast_ofNat_Int, Int.natCast_zero, Int.natCast_one, List.length_cons, List.length_nil, Nat.reduceLeDiff, Nat.reduceAdd, Nat.reduceEqDiff, List.getElem?_cons_zero, List.getElem?_cons_succ, List.set_cons_zero, List.set_cons_succ, List.append_nil, List.nil_append, List.cons_append, gst_M, gst_mok, gst_F, gst_B, e0, e5, e6, kr, mokApp, kq, mokPop, lq, k3, pq, l3, ar]
theorem list_rng16 {a b c d e : Option D} : xListRng (iRng1 (xIx (xVar 1) (xC (.int 2)))) [some (.ref p), some planD, a, b, c, d, e] η = .ok (.ref η.length) (η ++ [O.lst ((List.range 16).map fun k : Nat => D.int k)]) := by
  unfold xListRng
  rw [rng1_to (j := 16) (η1 := η) (by unfold planD; simp only [↓evD, evU, evV, frz_newN, Option.bind_some, Bool.not_true, Bool.not_false, Bool.and_true, Bool.and_self, decide_true, decide_false, sizeLine_eq, Int.reduceLE, Int.reduceLT, Int.reduceBEq, Int.reduceAdd, Int.reduceSub, Int.cast_ofNat_Int, Int.natCast_zero, Int.natCast_one, List.length_cons, List.length_nil, Nat.reduceLeDiff, Nat.reduceAdd, Nat.reduceEqDiff, List.getElem?_cons_zero, List.getElem?_cons_succ, List.set_cons_zero, List.set_cons_succ, List.append_nil, List.nil_append, List.cons_append]) (by omega)]
  show (if 16 ≤ 2 ^ 24 then newL ((List.range 16).map fun k : Nat => D.int (0 + (k : Int))) η else .bad) = _
  rw [if_pos (by decide)]
  have : ((List.range 16).map fun k : Nat => D.int (0 + (k : Int))) = (List.range 16).map fun k : Nat => D.int k := by
    congr 1
    funext k
    rw [Int.zero_add]
  rw [this]
  rfl
theorem law_order_s (h : η[p]? = some (st3 s)) : Q (n + 2) f__law_order [.ref p, planD] η = .ok (ordG s).1.d (η.set p (st3 (ordG s).2)) := by
  rw [u__law_order]
  have k3 : Q (n + 1) f__law_choice [.ref p, .int 9] η = .ok (.int (chN s 9 : Nat)) (η.set p (st3 (chS s 9))) := choice_ok (n := n) (m := 9) h (by omega) (by omega)
  have hp1 : (η.set p (st3 (chS s 9)))[p]? = some (st3 (chS s 9)) := get_set h
  have l3 : Q (n + 1) f__law_choice [.ref p, .int 16] (η.set p (st3 (chS s 9))) = .ok (.int (chN (chS s 9) 16 : Nat)) ((η.set p (st3 (chS s 9))).set p (st3 (chS (chS s 9) 16))) := choice_ok (n := n) (m := 16) hp1 (by omega) (by omega)
  rw [List.set_set] at l3
  have hp2 : (η.set p (st3 (chS (chS s 9) 16)))[p]? = some (st3 (chS (chS s 9) 16)) := get_set h
  have hw := chN_lt (s := s) (m := 9) (by omega)
  unfold ordG
  dsimp only
  generalize chN s 9 = way at *
  generalize chN (chS s 9) 16 = pl at *
  generalize chS (chS s 9) 16 = s2 at *
  have d0 : ∀ η : Hv, dctOf η planD = none := fun _ => rfl
  have p0 : ∀ η : Hv, sixD planD (.int 2) η = .ok (.int 16) η := fun _ => six_n 2 rfl
  by_cases w4 : way < 4
  · rw [if_pos w4]
    have m3 : Q (n + 1) f__law_choice [.ref p, .int 64] (η.set p (st3 s2)) = .ok (.int (chN s2 64 : Nat)) ((η.set p (st3 s2)).set p (st3 (chS s2 64))) := choice_ok (n := n) (m := 64) hp2 (by omega) (by omega)
    rw [List.set_set] at m3
    refine fin_ret ?_ (List.length_set ..)
    have q1 : decide ((way : Int) < 4) = true := decide_eq_true (by omega)
    unfold m__law_order
    simp only [↓evD, evU, evV, frz_newN, Option.bind_some, Bool.not_true, Bool.not_false, Bool.and_true, Bool.and_self, decide_true, decide_false, sizeLine_eq, Int.reduceLE, Int.reduceLT, Int.reduceBEq, Int.reduceAdd, Int.reduceSub, Int.cast_ofNat_Int, Int.natCast_zero, Int.natCast_one, List.length_cons, List.length_nil, Nat.reduceLeDiff, Nat.reduceAdd, Nat.reduceEqDiff, List.getElem?_cons_zero, List.getElem?_cons_succ, List.set_cons_zero, List.set_cons_succ, List.append_nil, List.nil_append, List.cons_append, gst_F, k3, d0, p0, l3, q1, m3]
    rfl
  · rw [if_neg w4]
    have q1 : decide ((way : Int) < 4) = false := decide_eq_false (by omega)
    by_cases e4 : way = 4
    · rw [if_pos e4]
      have q2 : ((way : Int) == 4) = true := by rw [e4]; rfl
      refine fin_ret ?_ (List.length_set ..)
      unfold m__law_order
      simp only [↓evD, evU, evV, frz_newN, Option.bind_some, Bool.not_true, Bool.not_false, Bool.and_true, Bool.and_self, decide_true, decide_false, sizeLine_eq, Int.reduceLE, Int.reduceLT, Int.reduceBEq, Int.reduceAdd, Int.reduceSub, Int.cast_ofNat_Int, Int.natCast_zero, Int.natCast_one, List.length_cons, List.length_nil, Nat.reduceLeDiff, Nat.reduceAdd, Nat.reduceEqDiff, List.getElem?_cons_zero, List.getElem?_cons_succ, List.set_cons_zero, List.set_cons_succ, List.append_nil, List.nil_append, List.cons_append, gst_F, k3, d0, p0, l3, q1, q2]
      rfl
    · rw [if_neg e4]
      have q2 : ((way : Int) == 4) = false := beq_eq_false_iff_ne.mpr (by omega)
      by_cases w7 : way < 7
      · rw [if_pos w7]
        have q3 : decide ((way : Int) < 7) = true := decide_eq_true (by omega)
        have A2 : (η.set p (st3 s2)).length = η.length := List.length_set ..
        have m3 : Q (n + 1) f__law_choice [.ref p, .int 4] (lay (η.set p (st3 s2)) (List.range 16) []) = .ok (.int (chN s2 4 : Nat)) (lay ((η.set p (st3 s2)).set p (st3 (chS s2 4))) (List.range 16) []) := choice_lay (n := n) (m := 4) (ps := List.range 16) (rows := []) hp2 (by omega) (by omega)
        rw [List.set_set] at m3
        have hK := chN_lt (s := s2) (m := 4) (by omega)
        have mn : ∀ η : Hv, biH .min [.int 4, .int 16] η = .ok (.int 4) η := fun η => by kernel_rfl
        have ir : iRng1 (xFrz (x2 (binF .Add) (xC (.int 1)) (xCall (gst (Q (n + 1))) f__law_choice [] (xCons (xVar 0) (xCons (xFn (biH .min) (xCons (xC (.int 4)) (xCons (xIx (xVar 1) (xC (.int 2))) xNil))) xNil))))) [some (.ref p), some planD, some (.int way), some (.int pl), none, some (.ref η.length), some (.ref (η.length + 1))] (lay (η.set p (st3 s2)) (List.range 16) []) = .ok (.rng 0 (1 + chN s2 4)) (lay (η.set p (st3 (chS s2 4))) (List.range 16) []) := by
          refine rng1_to ?_ (by omega)
          have fz : ∀ d : D, frz (lay (η.set p (st3 s2)) (List.range 16) []) (.ok d (lay (η.set p (st3 (chS s2 4))) (List.range 16) [])) = .ok d (lay (η.set p (st3 (chS s2 4))) (List.range 16) []) := fun d => frz_len (by unfold lay; simp)
          simp only [↓evD, evU, evV, frz_newN, Option.bind_some, Bool.not_true, Bool.not_false, Bool.and_true, Bool.and_self, decide_true, decide_false, sizeLine_eq, Int.reduceLE, Int.reduceLT, Int.reduceBEq, Int.reduceAdd, Int.reduceSub, Int.cast_ofNat_Int, Int.natCast_zero, Int.natCast_one, List.length_cons, List.length_nil, Nat.reduceLeDiff, Nat.reduceAdd, Nat.reduceEqDiff, List.getElem?_cons_zero, List.getElem?_cons_succ, List.set_cons_zero, List.set_cons_succ, List.append_nil, List.nil_append, List.cons_append, gst_F, gst_B, d0, p0, mn, m3, plus_int, fz]
          rw [show (1 : Int) + (chN s2 4 : Int) = ((1 + chN s2 4 : Nat) : Int) by omega]
        obtain ⟨env', η', f1, s4, f2, f3⟩ := for_to (i := iRng1 (xFrz (x2 (binF .Add) (xC (.int 1)) (xCall (gst (Q (n + 1))) f__law_choice [] (xCons (xVar 0) (xCons (xFn (biH .min) (xCons (xC (.int 4)) (xCons (xIx (xVar 1) (xC (.int 2))) xNil))) xNil)))))) (g := gSlot 4)
          (s := sSeq (sExp (xBm (gst (Q (n + 1))) "append" (xVar 6) (xCons (xTup (xCons (xBm (gst (Q (n + 1))) "pop" (xVar 5) (xCons (xCall (gst (Q (n + 1))) f__law_choice [] (xCons (xVar 0) (xCons (xFn (biH .len) (xCons (xVar 5) xNil)) xNil))) xNil)) (xCons (xCall (gst (Q (n + 1))) f__law_choice [] (xCons (xVar 0) (xCons (xC (.int 64)) xNil))) xNil))) xNil))) sPass)
          (xs := List.range (1 + chN s2 4)) (e := fun k : Nat => .int k)
          (fun done env η' => ∃ s4, env = [some (.ref p), some planD, some (.int way), some (.int pl), s4, some (.ref η.length), some (.ref (η.length + 1))] ∧ η' = lay (η.set p (st3 (rowsG done.length (chS s2 4) (List.range 16) []).1)) (rowsG done.length (chS s2 4) (List.range 16) []).2.1 (rowsG done.length (chS s2 4) (List.range 16) []).2.2)
          ir rng_nat ⟨none, rfl, rfl⟩ (fun done x rest hxs env η' hP => by
            obtain ⟨s4, rfl, rfl⟩ := hP
            have hdl : done.length ≤ 3 := by
              have := congrArg List.length hxs
              rw [List.length_range, List.length_append, List.length_cons] at this
              omega
            have pr := PRn.go done.length 0 (chS s2 4) (List.range 16) [] (PRn.init 16) (by omega)
            rw [Nat.zero_add] at pr
            have hG := rowsG_add done.length 1 (chS s2 4) (List.range 16) []
            generalize rowsG done.length (chS s2 4) (List.range 16) [] = z at *
            have pl1 := pr.left
            have pl2 := pr.len
            have hz : (η.set p (st3 z.1))[p]? = some (st3 z.1) := get_set h
            have y3 := row_run (n := n) (p := p) (A := η.set p (st3 z.1)) (ps := z.2.1) (rows := z.2.2) (env := [some (.ref p), some planD, some (.int way), some (.int pl), some (.int x), some (.ref η.length), some (.ref (η.length + 1))]) (N := η.length) hz (List.length_set ..) (by omega) (by omega) (by omega) rfl rfl rfl
            rw [List.set_set] at y3
            refine ⟨_, _, y3, some (.int x), rfl, ?_⟩
            rw [List.length_append, List.length_singleton, hG]
            rfl)
        subst f2 f3
        rw [List.length_range] at f1
        generalize rowsG (1 + chN s2 4) (chS s2 4) (List.range 16) [] = z at *
        have A4 : (η.set p (st3 z.1)).length = η.length := List.length_set ..
        have tp : biH .tuple [.ref (η.length + 1)] (lay (η.set p (st3 z.1)) z.2.1 z.2.2) = .ok (.tup (z.2.2.map prD)) (lay (η.set p (st3 z.1)) z.2.1 z.2.2) := by
          have := tup_of (lay_r (A := η.set p (st3 z.1)) (ps := z.2.1) (rows := z.2.2))
          rwa [A4] at this
        have lr := list_rng16 (p := p) (η := η.set p (st3 s2)) (a := some (.int way)) (b := some (.int pl)) (c := none) (d := none) (e := none)
        rw [A2] at lr
        have hl : η.set p (st3 s2) ++ [O.lst ((List.range 16).map fun k : Nat => D.int k)] ++ [O.lst []] = lay (η.set p (st3 s2)) (List.range 16) [] := by
          rw [List.append_assoc]
          rfl
        have hlen : (η.set p (st3 s2) ++ [O.lst ((List.range 16).map fun k : Nat => D.int k)]).length = η.length + 1 := by
          rw [List.length_append, A2]
          rfl
        refine fin_v (G := [O.lst (z.2.1.map fun k : Nat => D.int k), O.lst (z.2.2.map prD)]) ?_ (ltD_of (od_noRef (.group z.2.2))) (List.length_set ..) (gd_st _)
        show m__law_order _ _ _ = RS.ret _ (lay (η.set p (st3 z.1)) z.2.1 z.2.2)
        unfold m__law_order
        simp only [↓evD, evU, evV, frz_newN, Option.bind_some, Bool.not_true, Bool.not_false, Bool.and_true, Bool.and_self, decide_true, decide_false, sizeLine_eq, Int.reduceLE, Int.reduceLT, Int.reduceBEq, Int.reduceAdd, Int.reduceSub, Int.cast_ofNat_Int, Int.natCast_zero, Int.natCast_one, List.length_cons, List.length_nil, Nat.reduceLeDiff, Nat.reduceAdd, Nat.reduceEqDiff, List.getElem?_cons_zero, List.getElem?_cons_succ, List.set_cons_zero, List.set_cons_succ, List.append_nil, List.nil_append, List.cons_append, gst_F, gst_B, k3, d0, p0, l3, q1, q2, q3, lr, newL, hlen, hl, f1, tp]
        rfl
      · rw [if_neg w7]
        have q3 : decide ((way : Int) < 7) = false := decide_eq_false (by omega)
        refine fin_ret ?_ (List.length_set ..)
        unfold m__law_order
        simp only [↓evD, evU, evV, frz_newN, Option.bind_some, Bool.not_true, Bool.not_false, Bool.and_true, Bool.and_self, decide_true, decide_false, sizeLine_eq, Int.reduceLE, Int.reduceLT, Int.reduceBEq, Int.reduceAdd, Int.reduceSub, Int.cast_ofNat_Int, Int.natCast_zero, Int.natCast_one, List.length_cons, List.length_nil, Nat.reduceLeDiff, Nat.reduceAdd, Nat.reduceEqDiff, List.getElem?_cons_zero, List.getElem?_cons_succ, List.set_cons_zero, List.set_cons_succ, List.append_nil, List.nil_append, List.cons_append, gst_F, k3, d0, p0, l3, q1, q2, q3]
        rfl
end Mi
end

section
set_option maxRecDepth 100000
set_option maxHeartbeats 4000000
/-! L3: any order, any weather. -/
noncomputable section
namespace Mi
open PySem En Tx
variable {n p : Nat} {η : Hv} {s : S3}
theorem frz_st {xs : List D} {s2 : S3} (h : noRefs xs = true) : frz η (newL xs (η.set p (st3 s2))) = .ok (.lst xs) (η.set p (st3 s2)) := by
  have e : newL xs (η.set p (st3 s2)) = .ok (.ref η.length) (η.set p (st3 s2) ++ O.lst xs :: []) := by
    show R.ok (D.ref (η.set p (st3 s2)).length) _ = _
    rw [List.length_set]
  rw [e]
  exact frz_lst (ltL_of h) (List.length_set ..) (gd_st s2)
theorem law_any_order_s (h : η[p]? = some (st3 s)) : Q (n + 3) f__law_any_order [.ref p] η = .ok (anyG s).1.d (η.set p (st3 (anyG s).2)) := by
  rw [u__law_any_order]
  have k2 := law_order_s (n := n) h
  have hp1 : (η.set p (st3 (ordG s).2))[p]? = some (st3 (ordG s).2) := get_set h
  have l2 := law_order_s (n := n) hp1
  rw [List.set_set] at l2
  have hp2 : (η.set p (st3 (ordG (ordG s).2).2))[p]? = some (st3 (ordG (ordG s).2).2) := get_set h
  have m3 : Q (n + 2) f__law_choice [.ref p, .int 5] (η.set p (st3 (ordG (ordG s).2).2)) = .ok (.int (chN (ordG (ordG s).2).2 5 : Nat)) ((η.set p (st3 (ordG (ordG s).2).2)).set p (st3 (chS (ordG (ordG s).2).2 5))) := choice_ok (n := n + 1) (m := 5) hp2 (by omega) (by omega)
  rw [List.set_set] at m3
  have hj := chN_lt (s := (ordG (ordG s).2).2) (m := 5) (by omega)
  unfold anyG
  dsimp only
  generalize (ordG (ordG s).2).1 = o2 at *
  generalize (ordG (ordG s).2).2 = s2 at *
  generalize (ordG s).1 = o1 at *
  have dv : ∀ η : Hv, binF .FloorDiv (.int (chN s2 5 : Nat)) (.int 2) η = .ok (.int (chN s2 5 / 2 : Nat)) η := fun η => by
    rw [div_int (by omega) (by omega)]
    rfl
  have hj3 : chN s2 5 / 2 < 3 := by omega
  generalize chN s2 5 / 2 = j at *
  have pd : D.tup [.int 8, .int 8, .int 16, .bl true, .bl true] = planD := rfl
  have md : D.tup [.str "mend"] = Od.d .mend := rfl
  have fz := frz_st (p := p) (η := η) (s2 := s2) (xs := [o1.d, Od.d .mend, o2.d]) (by rw [nr_cons, nr_cons, nr_cons, od_noRef, od_noRef, od_noRef]; rfl)
  have x1 : ∀ η : Hv, sixD (.lst [o1.d, Od.d .mend, o2.d]) (.int (j : Nat)) η = .ok (if j = 0 then o1 else if j = 1 then .mend else o2).d η := fun η => by
    match j, hj3 with
    | 0, _ => exact sixl_n 0 rfl
    | 1, _ => exact sixl_n 1 rfl
    | 2, _ => exact sixl_n 2 rfl
  refine fin_ret ?_ (List.length_set ..)
  unfold m__law_any_order
  simp only [↓evD, evU, evV, frz_newN, Option.bind_some, Bool.not_true, Bool.not_false, Bool.and_true, Bool.and_self, decide_true, decide_false, sizeLine_eq, Int.reduceLE, Int.reduceLT, Int.reduceBEq, Int.reduceAdd, Int.reduceSub, Int.cast_ofNat_Int, Int.natCast_zero, Int.natCast_one, List.length_cons, List.length_nil, Nat.reduceLeDiff, Nat.reduceAdd, Nat.reduceEqDiff, List.getElem?_cons_zero, List.getElem?_cons_succ, List.set_cons_zero, List.set_cons_succ, List.append_nil, List.nil_append, List.cons_append, pd, gst_F, k2, l2, md, fz, m3, dv, x1]
/-! ### any weather -/
def hw (A : Hv) (ws : List (Nat × Fl)) : Hv := A ++ [O.dct (ws.map kvD)]
section
variable {A : Hv} {ws : List (Nat × Fl)}
theorem hw_q : (hw A ws)[A.length]? = some (.dct (ws.map kvD)) := at_len
theorem hw_setq {ws2 : List (Nat × Fl)} : (hw A ws).set A.length (.dct (ws2.map kvD)) = hw A ws2 := set_len
end
theorem choice_hw {m : Nat} {A : Hv} {ws : List (Nat × Fl)} (h : A[p]? = some (st3 s)) (hm : 0 < m) (hm2 : m < 1073741824) : Q (n + 1) f__law_choice [.ref p, .int m] (hw A ws) = .ok (.int (chN s m : Nat)) (hw (A.set p (st3 (chS s m))) ws) := by
  unfold hw
  rw [choice_ok (get_app h) hm hm2, set_app h]
theorem frz_hw {A : Hv} {ws : List (Nat × Fl)} {xs : List D} {s2 : S3} (h : noRefs xs = true) : frz (hw A ws) (newL xs (hw (A.set p (st3 s2)) ws)) = .ok (.lst xs) (hw (A.set p (st3 s2)) ws) := by
  have hl : (hw (A.set p (st3 s2)) ws).length = (hw A ws).length := by unfold hw; simp
  have e : newL xs (hw (A.set p (st3 s2)) ws) = .ok (.ref (hw A ws).length) (hw (A.set p (st3 s2)) ws ++ O.lst xs :: []) := by
    show R.ok (D.ref (hw (A.set p (st3 s2)) ws).length) _ = _
    rw [hl]
  rw [e]
  refine frz_lst (ltL_of h) hl fun hg => ?_
  unfold gd at hg ⊢
  rw [hl]
  unfold hw at hg ⊢
  rw [List.all_append, Bool.and_eq_true] at hg ⊢
  refine ⟨List.all_eq_true.mpr fun o ho => ?_, hg.2⟩
  rcases List.mem_or_eq_of_mem_set ho with z | z
  · exact List.all_eq_true.mp hg.1 o z
  · rw [z]; rfl
theorem min_int {i j : Int} : biH .min [.int i, .int j] η = .ok (.int (if j < i then j else i)) η := rfl
def stepW (F : Nat → List D → Hv → R D) : Stm := sSeq (sAsg (xIx (xFrz (xLst (xCons (xTup (xCons (xC (.str "cut")) (xNil))) (xCons (xTup (xCons (xC (.str "bad")) (xNil))) (xCons (xTup (xCons (xC (.str "bit")) (xCons (xCall (gst F) f__law_choice [] (xCons (xVar 0) (xCons (xC (.int 47)) (xNil)))) (xNil)))) (xCons (xTup (xCons (xC (.str "bit")) (xCons (xC (.int 46)) (xNil)))) (xNil))))))) (xCall (gst F) f__law_choice [] (xCons (xVar 0) (xCons (xC (.int 4)) (xNil))))) (gSlot 4)) (sSeq (sAsg (xIx (xFrz (xLst (xCons (xC (.int 9999)) (xCons (xC (.int 0)) (xCons (xCall (gst F) f__law_choice [] (xCons (xVar 0) (xCons (xVar 1) (xNil)))) (xNil)))))) (xFn (biH .min) (xCons (xC (.int 2)) (xCons (xCall (gst F) f__law_choice [] (xCons (xVar 0) (xCons (xC (.int 12)) (xNil)))) (xNil))))) (gSlot 5)) (sSeq (sAsg (xVar 4) (gIx (xVar 2) (xVar 5))) (sPass)))
theorem lap_w {A : Hv} {far N : Nat} {ws : List (Nat × Fl)} {s3 s4 s5 : Option D} (h : A[p]? = some (st3 s)) (hN : A.length = N) (hws : ws.length ≤ 40) (hf : 0 < far) (hf2 : far ≤ 10000) : ∃ s4' s5', stepW (Q (n + 1)) [some (.ref p), some (.int far), some (.ref N), s3, s4, s5] (hw A ws) = .nxt [some (.ref p), some (.int far), some (.ref N), s3, s4', s5'] (hw (A.set p (st3 (fltG far s).2)) (putW ws (fltG far s).1)) := by
  subst hN
  have k3 : Q (n + 1) f__law_choice [.ref p, .int 47] (hw A ws) = .ok (.int (chN s 47 : Nat)) (hw (A.set p (st3 (chS s 47))) ws) := choice_hw (n := n) (m := 47) h (by omega) (by omega)
  have h1 : (A.set p (st3 (chS s 47)))[p]? = some (st3 (chS s 47)) := get_set h
  have l3 : Q (n + 1) f__law_choice [.ref p, .int 4] (hw (A.set p (st3 (chS s 47))) ws) = .ok (.int (chN (chS s 47) 4 : Nat)) (hw ((A.set p (st3 (chS s 47))).set p (st3 (chS (chS s 47) 4))) ws) := choice_hw (n := n) (m := 4) h1 (by omega) (by omega)
  rw [List.set_set] at l3
  have h2 : (A.set p (st3 (chS (chS s 47) 4)))[p]? = some (st3 (chS (chS s 47) 4)) := get_set h
  have m3 := choice_hw (n := n) (m := far) (ws := ws) h2 hf (by omega)
  rw [List.set_set] at m3
  have h3 : (A.set p (st3 (chS (chS (chS s 47) 4) far)))[p]? = some (st3 (chS (chS (chS s 47) 4) far)) := get_set h
  have n3 : Q (n + 1) f__law_choice [.ref p, .int 12] (hw (A.set p (st3 (chS (chS (chS s 47) 4) far))) ws) = .ok (.int (chN (chS (chS (chS s 47) 4) far) 12 : Nat)) (hw ((A.set p (st3 (chS (chS (chS s 47) 4) far))).set p (st3 (chS (chS (chS (chS s 47) 4) far) 12))) ws) := choice_hw (n := n) (m := 12) h3 (by omega) (by omega)
  rw [List.set_set] at n3
  have f1 := frz_hw (p := p) (A := A) (ws := ws) (s2 := chS s 47) (xs := [.tup [.str "cut"], .tup [.str "bad"], .tup [.str "bit", .int (chN s 47 : Nat)], .tup [.str "bit", .int 46]]) rfl
  have f2 := frz_hw (p := p) (A := A.set p (st3 (chS (chS s 47) 4))) (ws := ws) (s2 := chS (chS (chS s 47) 4) far) (xs := [.int 9999, .int 0, .int (chN (chS (chS s 47) 4) far : Nat)]) rfl
  rw [List.set_set] at f2
  have hj := chN_lt (s := chS s 47) (m := 4) (by omega)
  have x1 : ∀ η : Hv, sixD (.lst [.tup [.str "cut"], .tup [.str "bad"], .tup [.str "bit", .int (chN s 47 : Nat)], .tup [.str "bit", .int 46]]) (.int (chN (chS s 47) 4 : Nat)) η = .ok ([Fl.cut, .bad, .bit (chN s 47), .bit 46].getD (chN (chS s 47) 4) .cut).d η := fun η => by
    match chN (chS s 47) 4, hj with
    | 0, _ => exact sixl_n 0 rfl
    | 1, _ => exact sixl_n 1 rfl
    | 2, _ => exact sixl_n 2 rfl
    | 3, _ => exact sixl_n 3 rfl
  have mn : ∀ η : Hv, biH .min [.int 2, .int (chN (chS (chS (chS s 47) 4) far) 12 : Nat)] η = .ok (.int (min 2 (chN (chS (chS (chS s 47) 4) far) 12) : Nat)) η := fun η => by
    rw [min_int]
    congr 2
    by_cases z : ((chN (chS (chS (chS s 47) 4) far) 12 : Nat) : Int) < 2
    · rw [if_pos z]; omega
    · rw [if_neg z]; omega
  have x2' : ∀ η : Hv, sixD (.lst [.int 9999, .int 0, .int (chN (chS (chS s 47) 4) far : Nat)]) (.int (min 2 (chN (chS (chS (chS s 47) 4) far) 12) : Nat)) η = .ok (.int (([9999, 0, chN (chS (chS s 47) 4) far].getD (min 2 (chN (chS (chS (chS s 47) 4) far) 12)) 0 : Nat) : Int)) η := fun η => by
    have h3 : min 2 (chN (chS (chS (chS s 47) 4) far) 12) < 3 := by omega
    match min 2 (chN (chS (chS (chS s 47) 4) far) 12), h3 with
    | 0, _ => exact sixl_n 0 rfl
    | 1, _ => exact sixl_n 1 rfl
    | 2, _ => exact sixl_n 2 rfl
  have st : ∀ (A' : Hv) (r : Nat × Fl), A'.length = A.length → setItemD (.ref A.length) (.int (r.1 : Nat)) r.2.d (hw A' ws) = .ok () (hw A' (putW ws r)) := fun A' r hl => by
    unfold setItemD
    dsimp only
    rw [← hl, hw_q]
    dsimp only [keyD]
    rw [if_pos (by rw [List.length_map, sizeLine_eq]; omega), putKD_eq ws r, hw_setq]
  have st2 := st (A.set p (st3 (fltG far s).2)) (fltG far s).1 (List.length_set ..)
  unfold fltG at st2 ⊢
  dsimp only at st2 ⊢
  refine ⟨some ([Fl.cut, .bad, .bit (chN s 47), .bit 46].getD (chN (chS s 47) 4) .cut).d, some (.int (([9999, 0, chN (chS (chS s 47) 4) far].getD (min 2 (chN (chS (chS (chS s 47) 4) far) 12)) 0 : Nat) : Int)), ?_⟩
  unfold stepW
  simp only [↓evD, evU, evV, frz_newN, Option.bind_some, Bool.not_true, Bool.not_false, Bool.and_true, Bool.and_self, decide_true, decide_false, sizeLine_eq, Int.reduceLE, Int.reduceLT, Int.reduceBEq, Int.reduceAdd, Int.reduceSub, Int.cast_ofNat_Int, Int.natCast_zero, Int.natCast_one, List.length_cons, List.length_nil, Nat.reduceLeDiff, Nat.reduceAdd, Nat.reduceEqDiff, List.getElem?_cons_zero, List.getElem?_cons_succ, List.set_cons_zero, List.set_cons_succ, List.append_nil, List.nil_append, List.cons_append, gst_F, gst_B, k3, f1, l3, x1, m3, f2, n3, mn, x2', st2]
theorem sorted_dict {q : Nat} {ws : List (Nat × Fl)} (h : η[q]? = some (.dct (ws.map kvD))) (hl : ws.length ≤ 40) : biH .sorted [.ref q] η = newL ((srt ws).map fun r => D.int r.1) η := by
  have e1 : biG .sorted [.ref q] η = .bad := by
    show sortF [.ref q] η = .bad
    unfold sortF
    have : lstOf η (.ref q) = none := by
      unfold lstOf
      dsimp only
      rw [h]
    have s : seqOf η (.ref q) = none := this
    simp only [this, s]
  show orF (biG .sorted) sortDF [.ref q] η = _
  unfold orF
  rw [e1]
  show (match (dctOf η (.ref q)).bind keysOf with
    | some ks => if ks.length ≤ sizeLine then newL ((ks.mergeSort leI).map D.int) η else .bad
    | none => .bad) = _
  have : dctOf η (.ref q) = some (ws.map kvD) := by
    unfold dctOf
    dsimp only
    rw [h]
  rw [this, Option.bind_some, keysOf_kv]
  dsimp only
  rw [if_pos (by rw [List.length_map, sizeLine_eq]; omega), srt_keys, List.map_map]
  rfl
theorem law_any_weather_s {far : Nat} (h : η[p]? = some (st3 s)) (hf : 0 < far) (hf2 : far ≤ 10000) : Q (n + 2) f__law_any_weather [.ref p, .int far] η = .ok (wD (wethG far s).1) (η.set p (st3 (wethG far s).2)) := by
  rw [u__law_any_weather]
  have k3 : Q (n + 1) f__law_choice [.ref p, .int 4] (hw η []) = .ok (.int (chN s 4 : Nat)) (hw (η.set p (st3 (chS s 4))) []) := choice_hw (n := n) (m := 4) h (by omega) (by omega)
  have hj := chN_lt (s := s) (m := 4) (by omega)
  have x1 : ∀ η : Hv, sixD (.lst [.int 0, .int 1, .int 5, .int 40]) (.int (chN s 4 : Nat)) η = .ok (.int (manyW s : Nat)) η := fun η => by
    unfold manyW
    match chN s 4, hj with
    | 0, _ => exact sixl_n 0 rfl
    | 1, _ => exact sixl_n 1 rfl
    | 2, _ => exact sixl_n 2 rfl
    | 3, _ => exact sixl_n 3 rfl
  have f0 : ∀ η : Hv, frz η (newL [.int 0, .int 1, .int 5, .int 40] η) = .ok (.lst [.int 0, .int 1, .int 5, .int 40]) η := fun η => frz_newN rfl
  have ir : iRng1 (xIx (xFrz (xLst (xCons (xC (.int 0)) (xCons (xC (.int 1)) (xCons (xC (.int 5)) (xCons (xC (.int 40)) (xNil))))))) (xCall (gst (Q (n + 1))) f__law_choice [] (xCons (xVar 0) (xCons (xC (.int 4)) (xNil))))) [some (.ref p), some (.int far), some (.ref η.length), none, none, none] (hw η []) = .ok (.rng 0 (manyW s)) (hw (η.set p (st3 (chS s 4))) []) := by
    refine rng1_to ?_ (by have := manyW_le s; omega)
    simp only [↓evD, evU, evV, frz_newN, Option.bind_some, Bool.not_true, Bool.not_false, Bool.and_true, Bool.and_self, decide_true, decide_false, sizeLine_eq, Int.reduceLE, Int.reduceLT, Int.reduceBEq, Int.reduceAdd, Int.reduceSub, Int.cast_ofNat_Int, Int.natCast_zero, Int.natCast_one, List.length_cons, List.length_nil, Nat.reduceLeDiff, Nat.reduceAdd, Nat.reduceEqDiff, List.getElem?_cons_zero, List.getElem?_cons_succ, List.set_cons_zero, List.set_cons_succ, List.append_nil, List.nil_append, List.cons_append, gst_F, f0, k3, x1]
  obtain ⟨env', η', f1, s3, s4, s5, f2, f3⟩ := for_to (g := gSlot 3) (s := stepW (Q (n + 1))) (xs := List.range (manyW s)) (e := fun k : Nat => .int k)
    (fun done env η' => ∃ s3 s4 s5, env = [some (.ref p), some (.int far), some (.ref η.length), s3, s4, s5] ∧ η' = hw (η.set p (st3 (wetG far done.length (chS s 4) []).1)) (wetG far done.length (chS s 4) []).2)
    ir rng_nat ⟨none, none, none, rfl, rfl⟩ (fun done x rest hxs env η' hP => by
      obtain ⟨s3, s4, s5, rfl, rfl⟩ := hP
      have hdl : done.length < manyW s := by
        have := congrArg List.length hxs
        rw [List.length_range, List.length_append, List.length_cons] at this
        omega
      have hm := manyW_le s
      have wr := WR.go hf hf2 done.length 0 (chS s 4) [] ⟨Nat.le_refl _, List.nodup_nil, fun r hr => (List.not_mem_nil hr).elim⟩
      rw [Nat.zero_add] at wr
      have hG := wetG_add far done.length 1 (chS s 4) []
      generalize wetG far done.length (chS s 4) [] = z at *
      obtain ⟨s4', s5', y⟩ := lap_w (n := n) (p := p) (s := z.1) (A := η.set p (st3 z.1)) (far := far) (N := η.length) (ws := z.2) (s3 := some (.int x)) (s4 := s4) (s5 := s5) (get_set h) (List.length_set ..) (by have := wr.len; omega) hf hf2
      rw [List.set_set] at y
      refine ⟨_, _, y, some (.int x), s4', s5', rfl, ?_⟩
      rw [List.length_append, List.length_singleton, hG]
      rfl)
  subst f2 f3
  rw [List.length_range] at f1
  have wr := WR.go hf hf2 (manyW s) 0 (chS s 4) [] ⟨Nat.le_refl _, List.nodup_nil, fun r hr => (List.not_mem_nil hr).elim⟩
  rw [Nat.zero_add] at wr
  have wok := wethG_ok hf hf2 s
  have hm := manyW_le s
  unfold wethG at wok ⊢
  dsimp only at wok ⊢
  generalize wetG far (manyW s) (chS s 4) [] = z at *
  have A4 : (η.set p (st3 z.1)).length = η.length := List.length_set ..
  have hq : (hw (η.set p (st3 z.1)) z.2)[η.length]? = some (.dct (z.2.map kvD)) := by rw [← A4]; exact hw_q
  have so : frz (hw (η.set p (st3 z.1)) z.2) (biH .sorted [.ref η.length] (hw (η.set p (st3 z.1)) z.2)) = .ok (.lst ((srt z.2).map fun r => D.int r.1)) (hw (η.set p (st3 z.1)) z.2) := by
    rw [sorted_dict hq (by have := wr.len; omega)]
    exact frz_newN (noRefs_map fun _ _ => rfl)
  have pm : (srt z.2).Perm z.2 := List.mergeSort_perm _ _
  refine fin_v (G := [O.dct (z.2.map kvD)]) ?_ (ltD_of (wD_noRef _)) (List.length_set ..) (gd_st _)
  show m__law_any_weather _ _ _ = RS.ret _ (hw (η.set p (st3 z.1)) z.2)
  have xd : xDictNew [some (.ref p), some (.int far), none, none, none, none] η = .ok (.ref η.length) (hw η []) := rfl
  have cm := compM (own := [5]) (i := iVal (xFrz (xFn (biH .sorted) (xCons (xVar 2) (xNil))))) (g := gSlot 5) (m := xTup (xCons (xVar 5) (xCons (xIx (xVar 2) (xVar 5)) (xNil)))) (env := [some (.ref p), some (.int far), some (.ref η.length), s3, s4, s5]) (η := hw (η.set p (st3 z.1)) z.2) (xs := srt z.2) (e := fun r => .int r.1) rowD
    (wk_lst (by simp only [↓evD, evU, evV, frz_newN, Option.bind_some, Bool.not_true, Bool.not_false, Bool.and_true, Bool.and_self, decide_true, decide_false, sizeLine_eq, Int.reduceLE, Int.reduceLT, Int.reduceBEq, Int.reduceAdd, Int.reduceSub, Int.cast_ofNat_Int, Int.natCast_zero, Int.natCast_one, List.length_cons, List.length_nil, Nat.reduceLeDiff, Nat.reduceAdd, Nat.reduceEqDiff, List.getElem?_cons_zero, List.getElem?_cons_succ, List.set_cons_zero, List.set_cons_succ, List.append_nil, List.nil_append, List.cons_append, so]) rfl) (by have := wok.1; rw [sizeLine_eq]; omega) (fun r hr G => ⟨_, rfl, by
      have dq : dctOf (hw (η.set p (st3 z.1)) z.2 ++ G) (.ref η.length) = some (z.2.map kvD) := by
        unfold dctOf
        dsimp only
        rw [get_app hq]
      have kk : kdK (some (z.2.map kvD)) (.int r.1) (hw (η.set p (st3 z.1)) z.2 ++ G) (sixD (.ref η.length) (.int r.1) (hw (η.set p (st3 z.1)) z.2 ++ G)) = .ok r.2.d (hw (η.set p (st3 z.1)) z.2 ++ G) := by
        show (match (keyD (.int r.1)).bind (getK (z.2.map kvD)) with
          | some x => R.ok x _
          | none => .bad) = _
        have : (keyD (.int r.1)).bind (getK (z.2.map kvD)) = some r.2.d := get_kv wr.nd (pm.mem_iff.mp hr)
        rw [this]
      simp only [↓evD, evU, evV, frz_newN, Option.bind_some, Bool.not_true, Bool.not_false, Bool.and_true, Bool.and_self, decide_true, decide_false, sizeLine_eq, Int.reduceLE, Int.reduceLT, Int.reduceBEq, Int.reduceAdd, Int.reduceSub, Int.cast_ofNat_Int, Int.natCast_zero, Int.natCast_one, List.length_cons, List.length_nil, Nat.reduceLeDiff, Nat.reduceAdd, Nat.reduceEqDiff, List.getElem?_cons_zero, List.getElem?_cons_succ, List.set_cons_zero, List.set_cons_succ, List.append_nil, List.nil_append, List.cons_append, wipeE, dq, kk]
      rfl⟩) (fun r _ => ltD_of (rowD_noRef r))
  unfold stepW at f1
  unfold m__law_any_weather
  simp only [↓evD, evU, evV, frz_newN, Option.bind_some, Bool.not_true, Bool.not_false, Bool.and_true, Bool.and_self, decide_true, decide_false, sizeLine_eq, Int.reduceLE, Int.reduceLT, Int.reduceBEq, Int.reduceAdd, Int.reduceSub, Int.cast_ofNat_Int, Int.natCast_zero, Int.natCast_one, List.length_cons, List.length_nil, Nat.reduceLeDiff, Nat.reduceAdd, Nat.reduceEqDiff, List.getElem?_cons_zero, List.getElem?_cons_succ, List.set_cons_zero, List.set_cons_succ, List.append_nil, List.nil_append, List.cons_append, gst_F, gst_B, xd, f1, cm]
  rfl
end Mi
end

section
set_option maxRecDepth 100000
set_option maxHeartbeats 4000000
/-! K64: the law's own defs. -/
noncomputable section
namespace Mi
open PySem En Tx
open Hd (saidW)
variable {n p : Nat} {η : Hv} {s : S3}
theorem repr_true : reprF [.bl true] η = .ok (.str "True") η := by kernel_rfl
theorem said_14 : saidW 14 = some "! text" := rfl
def yesW (b : Bool) : Str := if b then "True" else "! text"
theorem again_ok {t : Str} (ha : asc t = true) (hl : t.length ≤ 1000) : Q (n + 9) f__law_again [.str t] η = .ok (.bl true) η := by
  rw [u__law_again]
  have r1 := fun η => read_order_s (n := n) (η := η) ha hl
  have r2 := fun η => read_weather_s (n := n + 3) (η := η) ha hl
  have e1 : ∀ η, saidK ((x2 (cmpF .Eq) (xCall (gst (Q (n + 8))) f_order_text [] (xCons (xCall (gst (Q (n + 8))) f_read_order [] (xCons (xVar 0) (xNil))) (xNil))) (xVar 0)) [some (.str t), none, none] η) saidW = .ok (.str (yesW (ordIn t).isSome)) η := fun η => by
    cases h : ordIn t with
    | none =>
      rw [h] at r1
      have r1' : ∀ η, Q (n + 8) f_read_order [.str t] η = .exc 14 η := r1
      simp only [↓evD, evU, evV, frz_newN, Option.bind_some, Bool.not_true, Bool.not_false, Bool.and_true, Bool.and_self, decide_true, decide_false, sizeLine_eq, Int.reduceLE, Int.reduceLT, Int.reduceBEq, Int.reduceAdd, Int.reduceSub, Int.cast_ofNat_Int, Int.natCast_zero, Int.natCast_one, List.length_cons, List.length_nil, Nat.reduceLeDiff, Nat.reduceAdd, Nat.reduceEqDiff, List.getElem?_cons_zero, List.getElem?_cons_succ, List.set_cons_zero, List.set_cons_succ, List.append_nil, List.nil_append, List.cons_append, gst_F, r1']
      exact said_exc said_14
    | some o =>
      rw [h] at r1
      obtain ⟨h1, h2⟩ := ordIn_some h
      have r1' : ∀ η, Q (n + 8) f_read_order [.str t] η = .ok o.d η := r1
      have o1 : ∀ η, Q (n + 8) f_order_text [o.d] η = .ok (.str t) η := fun η => by rw [h2]; exact order_text_od (n := n + 1) h1
      have q1 : ∀ η, cmpF .Eq (.str t) (.str t) η = .ok (.bl true) η := fun η => by rw [eq_s ha ha, beq_self_eq_true]
      simp only [↓evD, evU, evV, frz_newN, Option.bind_some, Bool.not_true, Bool.not_false, Bool.and_true, Bool.and_self, decide_true, decide_false, sizeLine_eq, Int.reduceLE, Int.reduceLT, Int.reduceBEq, Int.reduceAdd, Int.reduceSub, Int.cast_ofNat_Int, Int.natCast_zero, Int.natCast_one, List.length_cons, List.length_nil, Nat.reduceLeDiff, Nat.reduceAdd, Nat.reduceEqDiff, List.getElem?_cons_zero, List.getElem?_cons_succ, List.set_cons_zero, List.set_cons_succ, List.append_nil, List.nil_append, List.cons_append, gst_F, r1', o1, q1, repr_true]
      rfl
  have e2 : ∀ env η, env[0]? = some (some (.str t)) → saidK ((x2 (cmpF .Eq) (xCall (gst (Q (n + 8))) f_weather_text [] (xCons (xCall (gst (Q (n + 8))) f_read_weather [] (xCons (xVar 0) (xNil))) (xNil))) (xVar 0)) env η) saidW = .ok (.str (yesW (wetIn t).isSome)) η := fun env η he => by
    cases h : wetIn t with
    | none =>
      rw [h] at r2
      have r1' : ∀ η, Q (n + 8) f_read_weather [.str t] η = .exc 14 η := r2
      simp only [↓evD, evU, evV, frz_newN, Option.bind_some, Bool.not_true, Bool.not_false, Bool.and_true, Bool.and_self, decide_true, decide_false, sizeLine_eq, Int.reduceLE, Int.reduceLT, Int.reduceBEq, Int.reduceAdd, Int.reduceSub, Int.cast_ofNat_Int, Int.natCast_zero, Int.natCast_one, List.length_cons, List.length_nil, Nat.reduceLeDiff, Nat.reduceAdd, Nat.reduceEqDiff, List.getElem?_cons_zero, List.getElem?_cons_succ, List.set_cons_zero, List.set_cons_succ, List.append_nil, List.nil_append, List.cons_append, gst_F, he, r1']
      exact said_exc said_14
    | some w =>
      rw [h] at r2
      obtain ⟨h1, h2⟩ := wetIn_some h
      have r1' : ∀ η, Q (n + 8) f_read_weather [.str t] η = .ok (wD w) η := r2
      have o1 : ∀ η, Q (n + 8) f_weather_text [wD w] η = .ok (.str t) η := fun η => by rw [← h2]; exact weather_text_w (n := n + 2) h1
      have q1 : ∀ η, cmpF .Eq (.str t) (.str t) η = .ok (.bl true) η := fun η => by rw [eq_s ha ha, beq_self_eq_true]
      simp only [↓evD, evU, evV, frz_newN, Option.bind_some, Bool.not_true, Bool.not_false, Bool.and_true, Bool.and_self, decide_true, decide_false, sizeLine_eq, Int.reduceLE, Int.reduceLT, Int.reduceBEq, Int.reduceAdd, Int.reduceSub, Int.cast_ofNat_Int, Int.natCast_zero, Int.natCast_one, List.length_cons, List.length_nil, Nat.reduceLeDiff, Nat.reduceAdd, Nat.reduceEqDiff, List.getElem?_cons_zero, List.getElem?_cons_succ, List.set_cons_zero, List.set_cons_succ, List.append_nil, List.nil_append, List.cons_append, gst_F, he, r1', o1, q1, repr_true]
      rfl
  have e3 : ∀ env η, env[0]? = some (some (.str t)) → saidK (xCall (gst (Q (n + 8))) f_is_weather [] (xCons (xCall (gst (Q (n + 8))) f_read_weather [] (xCons (xVar 0) (xNil))) (xNil)) env η) saidW = .ok (.str (yesW (wetIn t).isSome)) η := fun env η he => by
    cases h : wetIn t with
    | none =>
      rw [h] at r2
      have r1' : ∀ η, Q (n + 8) f_read_weather [.str t] η = .exc 14 η := r2
      simp only [↓evD, evU, evV, frz_newN, Option.bind_some, Bool.not_true, Bool.not_false, Bool.and_true, Bool.and_self, decide_true, decide_false, sizeLine_eq, Int.reduceLE, Int.reduceLT, Int.reduceBEq, Int.reduceAdd, Int.reduceSub, Int.cast_ofNat_Int, Int.natCast_zero, Int.natCast_one, List.length_cons, List.length_nil, Nat.reduceLeDiff, Nat.reduceAdd, Nat.reduceEqDiff, List.getElem?_cons_zero, List.getElem?_cons_succ, List.set_cons_zero, List.set_cons_succ, List.append_nil, List.nil_append, List.cons_append, gst_F, he, r1']
      exact said_exc said_14
    | some w =>
      rw [h] at r2
      obtain ⟨h1, h2⟩ := wetIn_some h
      have r1' : ∀ η, Q (n + 8) f_read_weather [.str t] η = .ok (wD w) η := r2
      have o1 : ∀ η, Q (n + 8) f_is_weather [wD w] η = .ok (.bl true) η := fun η => by rw [is_weather_l (n := n + 4), wthB_ok.mpr h1]
      simp only [↓evD, evU, evV, frz_newN, Option.bind_some, Bool.not_true, Bool.not_false, Bool.and_true, Bool.and_self, decide_true, decide_false, sizeLine_eq, Int.reduceLE, Int.reduceLT, Int.reduceBEq, Int.reduceAdd, Int.reduceSub, Int.cast_ofNat_Int, Int.natCast_zero, Int.natCast_one, List.length_cons, List.length_nil, Nat.reduceLeDiff, Nat.reduceAdd, Nat.reduceEqDiff, List.getElem?_cons_zero, List.getElem?_cons_succ, List.set_cons_zero, List.set_cons_succ, List.append_nil, List.nil_append, List.cons_append, gst_F, he, r1', o1, repr_true]
      rfl
  have f0 : m__law_again (Q (n + 8)) [some (.str t), none, none] η = .ret (.bl true) (η ++ [O.lst [.str (yesW (ordIn t).isSome), .str (yesW (wetIn t).isSome), .str (yesW (wetIn t).isSome)]]) := by
    unfold m__law_again
    generalize (x2 (cmpF .Eq) (xCall (gst (Q (n + 8))) f_order_text [] (xCons (xCall (gst (Q (n + 8))) f_read_order [] (xCons (xVar 0) (xNil))) (xNil))) (xVar 0)) = M1 at e1 ⊢
    generalize (x2 (cmpF .Eq) (xCall (gst (Q (n + 8))) f_weather_text [] (xCons (xCall (gst (Q (n + 8))) f_read_weather [] (xCons (xVar 0) (xNil))) (xNil))) (xVar 0)) = M2 at e2 ⊢
    generalize xCall (gst (Q (n + 8))) f_is_weather [] (xCons (xCall (gst (Q (n + 8))) f_read_weather [] (xCons (xVar 0) (xNil))) (xNil)) = M3 at e3 ⊢
    generalize (ordIn t).isSome = b1 at *
    generalize (wetIn t).isSome = b2 at *
    have k1 : kindB (η ++ [O.lst [.str (yesW b1)]]) (.ref η.length) = some "list" := kind_at
    have k2 : kindB (η ++ [O.lst [.str (yesW b1), .str (yesW b2)]]) (.ref η.length) = some "list" := kind_at
    have a1 := app_at (η := η) (d := .str (yesW b2)) (xs := [.str (yesW b1)]) (by show 1 < 100000; omega)
    have a2 := app_at (η := η) (d := .str (yesW b2)) (xs := [.str (yesW b1), .str (yesW b2)]) (by show 2 < 100000; omega)
    have ni : ∀ (b : Bool) (η : Hv), cmpF .NotIn (.str (yesW b)) (.tup [.str "True", .str "! text"]) η = .ok (.bl false) η := fun b η => by cases b <;> kernel_rfl
    have cm := comp_vs (own := [2]) (i := iVal (xVar 1)) (g := gSlot 2) (t := xBool (x2 (cmpF .NotIn) (xVar 2) (xTup (xCons (xC (.str "True")) (xCons (xC (.str "! text")) (xNil)))))) (m := xVar 2) (env := [some (.str t), some (.ref η.length), none]) (η := η ++ [O.lst [.str (yesW b1), .str (yesW b2), .str (yesW b2)]]) (xs := [b1, b2, b2]) (e := fun b => .str (yesW b)) (fun _ => false) (fun b => .str (yesW b)) (wks_ref rfl at_len) (by rw [sizeLine_eq]; show 3 ≤ _; omega) (fun b hb G => ⟨_, rfl, by simp only [↓evD, evU, evV, frz_newN, Option.bind_some, Bool.not_true, Bool.not_false, Bool.and_true, Bool.and_self, decide_true, decide_false, sizeLine_eq, Int.reduceLE, Int.reduceLT, Int.reduceBEq, Int.reduceAdd, Int.reduceSub, Int.cast_ofNat_Int, Int.natCast_zero, Int.natCast_one, List.length_cons, List.length_nil, Nat.reduceLeDiff, Nat.reduceAdd, Nat.reduceEqDiff, List.getElem?_cons_zero, List.getElem?_cons_succ, List.set_cons_zero, List.set_cons_succ, List.append_nil, List.nil_append, List.cons_append, wipeE, ni], fun h => by cases h⟩) (fun _ _ => rfl)
    rw [List.filter_eq_nil_iff.mpr fun _ _ h => by cases h] at cm
    have q0 : ∀ η : Hv, cmpF .Eq (.lst []) (.lst []) η = .ok (.bl true) η := fun η => by kernel_rfl
    have nl : newL [.str (yesW b1)] η = .ok (.ref η.length) (η ++ [O.lst [.str (yesW b1)]]) := rfl
    simp only [↓evD, evU, evV, frz_newN, Option.bind_some, Bool.not_true, Bool.not_false, Bool.and_true, Bool.and_self, decide_true, decide_false, sizeLine_eq, Int.reduceLE, Int.reduceLT, Int.reduceBEq, Int.reduceAdd, Int.reduceSub, Int.cast_ofNat_Int, Int.natCast_zero, Int.natCast_one, List.length_cons, List.length_nil, Nat.reduceLeDiff, Nat.reduceAdd, Nat.reduceEqDiff, List.getElem?_cons_zero, List.getElem?_cons_succ, List.set_cons_zero, List.set_cons_succ, List.append_nil, List.nil_append, List.cons_append, gst_M, gst_mok, e1, nl, k1, mokApp, e2, a1, k2, e3, a2, cm, List.map_nil, q0]
  exact fin_v f0 rfl rfl id
end Mi
end

section
set_option maxRecDepth 100000
set_option maxHeartbeats 4000000
/-! K65x: the law k64: _law_right. -/
noncomputable section
namespace Mi
open PySem En Tx
variable {n p : Nat} {η : Hv} {s : S3}
/-! ### comprehensions that choose -/
def gens {α : Type} (H : S3 → α × S3) : Nat → S3 → List α × S3
  | 0, s => ([], s)
  | k + 1, s => ((gens H k s).1 ++ [(H (gens H k s).2).1], (H (gens H k s).2).2)
theorem gens_len {α : Type} (H : S3 → α × S3) : ∀ (k : Nat) (s : S3), (gens H k s).1.length = k
  | 0, _ => rfl
  | k + 1, s => by
    show ((gens H k s).1 ++ [_]).length = _
    rw [List.length_append, gens_len H k s]
    rfl
theorem gens_all {α : Type} {H : S3 → α × S3} {q : α → Prop} (h : ∀ s, q (H s).1) : ∀ (k : Nat) (s : S3), ∀ x ∈ (gens H k s).1, q x
  | 0, _, x, hx => by cases hx
  | k + 1, s, x, hx => by
    rcases List.mem_append.mp (show x ∈ (gens H k s).1 ++ [_] from hx) with hx | hx
    · exact gens_all h k s x hx
    · rw [List.mem_singleton.mp hx]; exact h _
theorem comp_st {α β : Type} {own : List Nat} {i : Iex} {g : Tgt} {m : Exp} {env : Ev} {xs : List α} {e : α → D} (H : S3 → β × S3) (f : β → D) (hi : WkOk i env η xs e) (h : η[p]? = some (st3 s)) (hs : xs.length ≤ sizeLine)
    (hb : ∀ x ∈ xs, ∀ (s : S3) (η : Hv), η[p]? = some (st3 s) → ∃ e1, g (e x) (wipeE env own) η = .ok e1 η ∧ m e1 η = .ok (f (H s).1) (η.set p (st3 (H s).2))) (hr : ∀ b, noRef (f b) = true) :
    frz η (xComp own i g tYesB m env η) = .ok (.lst ((gens H xs.length s).1.map f)) (η.set p (st3 (gens H xs.length s).2)) := by
  obtain ⟨ds, η1, h1, h2, h3⟩ := comp_inv (own := own) (g := g) (t := tYesB) (m := m) (fun done ds η1 => η1 = η.set p (st3 (gens H done.length s).2) ∧ ds = (gens H done.length s).1.map f) hi ⟨(List.ext_getElem? fun k => by
      show η[k]? = (η.set p (st3 s))[k]?
      by_cases hk : p = k
      · subst hk; rw [get_set h, h]
      · rw [List.getElem?_set_ne hk]), rfl⟩ (fun done ds η1 ⟨z1, z2⟩ => ⟨by rw [z1, List.length_set], by rw [z2, List.length_map, gens_len]; exact Nat.le_refl _⟩) hs (fun done x rest hx ds η1 ⟨z1, z2⟩ => by
    subst z1 z2
    have hq : (η.set p (st3 (gens H done.length s).2))[p]? = some (st3 (gens H done.length s).2) := get_set h
    obtain ⟨e1, b1, b2⟩ := hb x (by rw [hx]; simp) (gens H done.length s).2 (η.set p (st3 (gens H done.length s).2) ++ [O.lst ((gens H done.length s).1.map f)]) (get_app hq)
    rw [set_app hq, List.set_set] at b2
    refine ⟨e1, true, _, b1, rfl, ?_⟩
    rw [if_pos rfl]
    refine ⟨_, _, b2, ?_, ?_⟩
    · rw [List.length_append]; rfl
    · rw [List.length_append]
      show _ = ((gens H done.length s).1 ++ [_]).map f
      rw [List.map_append]
      rfl)
  rw [h1, h2, h3]
  exact frz_lst (G := []) (ltL_of (noRefs_map fun b _ => hr b)) (List.length_set ..) (gd_st _)
/-! ### comparing -/
theorem eq_od {o o' : Od} (h : o.ok) (h' : o'.ok) : cmpF .Eq o.d o'.d η = .ok (.bl (decide (oT o = oT o'))) η := by
  have sh : ∀ o : Od, o.ok → SeqAt.shaped o.p = true := fun o h => by
    cases o with
    | group rows =>
      have pr : ∀ rows : List (Nat × Nat), PyData.canLayAll0 (rows.map prP) = true ∧ PyData.depthAll (rows.map prP) ≤ 1 := fun rows => by
        induction rows with
        | nil => exact ⟨rfl, by show 0 ≤ 1; omega⟩
        | cons r t ih =>
          refine ⟨?_, ?_⟩
          · show (true && PyData.canLayAll0 (t.map prP)) = true
            rw [ih.1]
            rfl
          · show max 1 (PyData.depthAll (t.map prP)) ≤ 1
            have := ih.2
            omega
      exact shaped_tup (by
        show (PyData.strOk "group" && (PyData.canLayAll0 (rows.map prP) && true)) = true
        rw [(pr rows).1]
        decide +kernel) (by
        show max 0 (max (PyData.depthAll (rows.map prP) + 1) 0) ≤ 60
        have := (pr rows).2
        omega)
    | write p d => exact shaped_wns (w := "write") (ks := [p, d]) (by decide +kernel)
    | trim p => exact shaped_wns (w := "trim") (ks := [p]) (by decide +kernel)
    | read p => exact shaped_wns (w := "read") (ks := [p]) (by decide +kernel)
    | mend => exact shaped_wns (w := "mend") (ks := []) (by decide +kernel)
  show eqB _ _ _ id = _
  unfold eqB
  rw [py_od, py_od]
  show (if SeqAt.shaped o.p && SeqAt.shaped o'.p then okB (PyData.eqv o.p o'.p) η else .bad) = _
  rw [sh o h, sh o' h', eqv_dec (p := oT o = oT o') (pl_od o) (pl_od o') ((⟨fun e => oT_inj h h' e, fun e => by rw [e]⟩ : oT o = oT o' ↔ o = o').trans (od_p_inj h h'))]
  rfl
theorem eq_w {w w' : List (Nat × Fl)} (h : WOk w) (h' : WOk w') : cmpF .Eq (wD w) (wD w') η = .ok (.bl (decide (wT w = wT w'))) η := by
  have sh : ∀ w : List (Nat × Fl), SeqAt.shaped (.tuple (w.map rowP)) = true := fun w => shaped_tup (lay_rows w) (by have := depth_rows w; omega)
  show eqB _ _ _ id = _
  unfold eqB
  rw [py_w, py_w]
  show (if SeqAt.shaped (.tuple (w.map rowP)) && SeqAt.shaped (.tuple (w'.map rowP)) then okB (PyData.eqv (.tuple (w.map rowP)) (.tuple (w'.map rowP))) η else .bad) = _
  rw [sh w, sh w', eqv_dec (p := wT w = wT w') (pl_w w) (pl_w w') ((⟨fun e => wT_inj h h' e, fun e => by rw [e]⟩ : wT w = wT w' ↔ w = w').trans w_p_inj)]
  rfl
theorem ne_bl {b : Bool} : cmpF .NotEq (.bl b) (.bl b) η = .ok (.bl false) η := by cases b <;> kernel_rfl
theorem ne_nils : cmpF .NotEq (.lst []) (.lst []) η = .ok (.bl false) η := by kernel_rfl
theorem beq_dec {a b : Str} : (a == b) = decide (a = b) := by
  by_cases h : a = b
  · rw [decide_eq_true h, h, beq_self_eq_true]
  · rw [decide_eq_false h, beq_no h]
/-! ### words turned about -/
theorem slc_to {xs : List D} {k : Nat} : slcD (.lst xs) none (some (k : Int)) η = newL (xs.take k) η := by
  show newL (cutD xs none (some (k : Int))) η = _
  unfold cutD
  rw [show HT.sIx xs.length xs.length (some (k : Int)) = min k xs.length from HT.sIx_nat _ _ k, HT.sIx_none]
  congr 1
  rw [List.drop_zero, Nat.sub_zero]
  by_cases h : k ≤ xs.length
  · rw [Nat.min_eq_left h]
  · rw [Nat.min_eq_right (by omega), List.take_of_length_le (Nat.le_refl _), List.take_of_length_le (by omega)]
theorem slc_from {xs : List D} {k : Nat} : slcD (.lst xs) (some (k : Int)) none η = newL (xs.drop k) η := by
  show newL (cutD xs (some (k : Int)) none) η = _
  unfold cutD
  rw [show HT.sIx xs.length 0 (some (k : Int)) = min k xs.length from HT.sIx_nat _ _ k, HT.sIx_none]
  congr 1
  rw [List.take_of_length_le (by rw [List.length_drop]; exact Nat.le_refl _)]
  by_cases h : k ≤ xs.length
  · rw [Nat.min_eq_left h]
  · rw [Nat.min_eq_right (by omega), List.drop_eq_nil_of_le (by omega), List.drop_eq_nil_of_le (by omega)]
theorem stp_rev {xs : List D} : stpD (.lst xs) none none (some (-1)) η = newL xs.reverse η := by
  show (if (-1 : Int) = -1 ∧ (none : Option Int) = none ∧ (none : Option Int) = none then (match lstOf η (.lst xs) with
    | some xs => newL xs.reverse η
    | none => .bad) else .bad) = _
  rw [if_pos ⟨rfl, rfl, rfl⟩]
  rfl
theorem neg_one : negD (.int 1) η = .ok (.int (-1)) η := by kernel_rfl
theorem seq_lst1 : True := trivial
/-- the five rows of a text's words -/
def fiveW (ws : List Str) (k : Nat) : List (List Str) := [ws, ws.take k ++ ws.drop (k + 1), ws.take (k + 1) ++ ws.drop k, ws.reverse, ws.take (k + 1)]
theorem sum_le {ws : List Str} {b : Nat} (h : ∀ w ∈ ws, w.length ≤ b) : (ws.map (·.length)).sum ≤ b * ws.length := by
  induction ws with
  | nil => exact Nat.zero_le _
  | cons w r ih =>
    have := ih fun x hx => h x (List.mem_cons_of_mem _ hx)
    have h1 := h w List.mem_cons_self
    show w.length + (r.map (·.length)).sum ≤ b * (r.length + 1)
    rw [Nat.mul_add, Nat.mul_one]
    omega
theorem five_ok {ws : List Str} {k : Nat} (hk : k < ws.length) : ∀ r ∈ fiveW ws k, (∀ w ∈ r, w ∈ ws) ∧ r.length ≤ ws.length + 1 := by
  intro r hr
  unfold fiveW at hr
  simp only [List.mem_cons, List.not_mem_nil, or_false] at hr
  rcases hr with rfl | rfl | rfl | rfl | rfl
  · exact ⟨fun _ h => h, by omega⟩
  · refine ⟨fun w hw => ?_, ?_⟩
    · rcases List.mem_append.mp hw with h | h
      · exact List.mem_of_mem_take h
      · exact List.mem_of_mem_drop h
    · rw [List.length_append, List.length_take, List.length_drop]; omega
  · refine ⟨fun w hw => ?_, ?_⟩
    · rcases List.mem_append.mp hw with h | h
      · exact List.mem_of_mem_take h
      · exact List.mem_of_mem_drop h
    · rw [List.length_append, List.length_take, List.length_drop]; omega
  · exact ⟨fun w hw => List.mem_reverse.mp hw, by rw [List.length_reverse]; omega⟩
  · exact ⟨fun w hw => List.mem_of_mem_take hw, by rw [List.length_take]; omega⟩
end Mi
end

section
set_option maxRecDepth 100000
set_option maxHeartbeats 4000000
/-! K66x: the law k64: the end. -/
noncomputable section
namespace Mi
open PySem En Tx
variable {n p : Nat} {η : Hv} {s : S3}
/-- a text that the law takes apart -/
def TxOk (t : Str) : Prop := asc t = true ∧ t.length ≤ 600 ∧ ∀ w ∈ wrds t, w.length ≤ 12
theorem oT_tx {o : Od} (h : o.ok) : TxOk (oT o) := ⟨asc_oT o, by have := oT_len h; omega, fun w hw => by
  have e : wrds (oT o) = o.w :: o.ns.map nT := split_oT o
  rw [e] at hw
  rcases List.mem_cons.mp hw with rfl | hw
  · have := odw_len o; omega
  · obtain ⟨k, hk, rfl⟩ := List.mem_map.mp hw
    have := nT_len ((ns_ok h).1 k hk)
    omega⟩
theorem wT_tx {w : List (Nat × Fl)} (h : WOk w) : TxOk (wT w) := by
  by_cases hw : w = []
  · rw [hw]
    refine ⟨by decide +kernel, by decide +kernel, fun x hx => ?_⟩
    have e : wrds (wT []) = [("-" : Str)] := by decide +kernel
    rw [e] at hx
    rw [List.mem_singleton.mp hx]
    decide +kernel
  · refine ⟨asc_wT w, ?_, fun x hx => ?_⟩
    · unfold wT
      rw [if_neg hw]
      have b := StrLaws.join_length_le (" " : Str) (w.map rowT)
      have s1 := wsum h.2.1
      have e1 : ((" " : Str)).length = 1 := by kernel_rfl
      rw [List.length_map, e1] at b
      have := h.1
      omega
    · unfold wT at hx
      rw [if_neg hw, wrds_wT hw] at hx
      obtain ⟨r, hr, rfl⟩ := List.mem_map.mp hx
      exact rowT_len r (h.2.1 r hr).1 (h.2.1 r hr).2
theorem five_tx {t : Str} {k : Nat} (ht : TxOk t) (hk : k < (wrds t).length) {r : List Str} (hr : r ∈ fiveW (wrds t) k) : asc (Str.join (" " : Str) r) = true ∧ (Str.join (" " : Str) r).length ≤ 1000 ∧ r.length ≤ 700 ∧ (r.map (·.length)).sum ≤ 10000 := by
  obtain ⟨h1, h2, h3⟩ := ht
  obtain ⟨m1, m2⟩ := five_ok hk r hr
  have hl := wrds_len t
  have hj := join_len 32 ((wrds t).map fun w => w.cps.toList) (by simp [wrds_ne])
  rw [wrds_cps, List.length_map, ← str_len] at hj
  have e1 : ((" " : Str)).length = 1 := by kernel_rfl
  have b := StrLaws.join_length_le (" " : Str) r
  rw [e1] at b
  -- what the words of the row come to
  have hsum : ((wrds t).map (·.length)).sum = (((wrds t).map fun w => w.cps.toList).map List.length).sum := by
    rw [List.map_map]
    congr 1
  have hs : (r.map (·.length)).sum ≤ ((wrds t).map (·.length)).sum + 12 := by
    unfold fiveW at hr
    simp only [List.mem_cons, List.not_mem_nil, or_false] at hr
    have tk : ∀ j, (((wrds t).take j).map (·.length)).sum + (((wrds t).drop j).map (·.length)).sum = ((wrds t).map (·.length)).sum := fun j => by
      rw [← List.sum_append, ← List.map_append, List.take_append_drop]
    have dr : ((wrds t).drop k) = (wrds t)[k] :: (wrds t).drop (k + 1) := List.drop_eq_getElem_cons hk
    have tk1 : (wrds t).take (k + 1) = (wrds t).take k ++ [(wrds t)[k]] := by
      rw [List.take_add_one, List.getElem?_eq_getElem hk]; rfl
    have hk12 := h3 (wrds t)[k] (List.getElem_mem hk)
    have a1 := tk k
    have a2 := tk (k + 1)
    rcases hr with rfl | rfl | rfl | rfl | rfl
    · omega
    · rw [List.map_append, List.sum_append]
      rw [dr, List.map_cons, List.sum_cons] at a1
      omega
    · rw [List.map_append, List.sum_append, tk1, List.map_append, List.sum_append]
      simp only [List.map_cons, List.map_nil, List.sum_cons, List.sum_nil]
      omega
    · rw [List.map_reverse, List.sum_reverse]; omega
    · omega
  refine ⟨asc_join (by decide +kernel) fun w hw => wrd_asc h1 (m1 w hw), by omega, by omega, by omega⟩
theorem join_lw {ws : List Str} (h : (ws.map (·.length)).sum ≤ 10000) (h2 : ws.length ≤ 700) : mtG "str" "join" (.str " ") [.lst (ws.map D.str)] η = .ok (.str (Str.join (" " : Str) ws)) η := by
  have := join_l (η := η) (f := fun x : Str => x) (a := (" " : Str)) (xs := ws) (by
    have e1 : ((" " : Str)).length = 1 := by kernel_rfl
    rw [List.map_id', e1]
    omega)
  rw [List.map_id'] at this
  exact this
theorem frz_sl {xs : List Str} : frz η (newL (xs.map D.str) η) = .ok (.lst (xs.map D.str)) η := frz_newN (noRefs_map fun _ _ => rfl)
theorem add_sl {xs ys : List Str} (h : xs.length + ys.length ≤ 100000) : frz η (binF .Add (.lst (xs.map D.str)) (.lst (ys.map D.str)) η) = .ok (.lst ((xs ++ ys).map D.str)) η := by
  rw [add_l (by rw [List.length_map, List.length_map]; exact h), ← List.map_append]
  exact frz_sl
/-- the last loop's body -/
def textS (F : Nat → List D → Hv → R D) : Stm := sSeq (sAsg (xFrz (xBm (gst F) "split" (xVar 2) (xCons (xC (.str " ")) (xNil)))) (gSlot 5)) (sSeq (sAsg (xCall (gst F) f__law_choice [] (xCons (xVar 0) (xCons (xFn (biH .len) (xCons (xVar 5) (xNil))) (xNil)))) (gSlot 6)) (sSeq (sFor (iVal (xFrz (xLst (xCons (xVar 5) (xCons (xFrz (x2 (binF .Add) (xFrz (xSlc (xVar 5) xNoPart (xPart (xVar 6)))) (xFrz (xSlc (xVar 5) (xPart (xFrz (x2 (binF .Add) (xVar 6) (xC (.int 1))))) xNoPart)))) (xCons (xFrz (x2 (binF .Add) (xFrz (xSlc (xVar 5) xNoPart (xPart (xFrz (x2 (binF .Add) (xVar 6) (xC (.int 1))))))) (xFrz (xSlc (xVar 5) (xPart (xVar 6)) xNoPart)))) (xCons (xFrz (xStp (xVar 5) xNoPart xNoPart (xPart (x1 negD (xC (.int 1)))))) (xCons (xFrz (xSlc (xVar 5) xNoPart (xPart (xFrz (x2 (binF .Add) (xVar 6) (xC (.int 1))))))) (xNil))))))))) (gSlot 7) (sSeq (sIf (xNotT (xTru (xCall (gst F) f__law_again [] (xCons (xBm (gst F) "join" (xC (.str " ")) (xCons (xVar 7) (xNil))) (xNil))))) (sSeq (sRet (xC (.bl false))) (sPass)) (sPass)) (sPass))) (sPass)))
theorem text_run {t : Str} {env : Ev} {d1 d3 d4 s5 s6 s7 : Option D} (h : η[p]? = some (st3 s)) (ht : TxOk t) : ∃ s5' s6' s7', textS (Q (n + 9)) [some (.ref p), d1, some (.str t), d3, d4, s5, s6, s7, none, none] η = .nxt [some (.ref p), d1, some (.str t), d3, d4, s5', s6', s7', none, none] (η.set p (st3 (chS s (wrds t).length))) := by
  have hl := ht.2.1
  have hwl := wrds_len t
  have hpos : 0 < (wrds t).length := List.length_pos_iff.mpr (wrds_ne t)
  have k3 := choice_ok (n := n + 8) (m := (wrds t).length) h hpos (by omega)
  have hk := chN_lt (s := s) hpos
  have sp := split_fr (η := η) (t := t) (by omega)
  have ln : biH .len [.lst ((wrds t).map D.str)] η = .ok (.int ((wrds t).length : Nat)) η := by rw [len_lst, List.length_map]
  generalize η.set p (st3 (chS s (wrds t).length)) = η1 at *
  generalize chN s (wrds t).length = k at *
  have pl : ∀ η : Hv, binF .Add (.int (k : Nat)) (.int 1) η = .ok (.int ((k + 1 : Nat) : Int)) η := fun η => by rw [plus_int]; rfl
  have a1 : frz η1 (newL ((wrds t).map D.str |>.take k) η1) = .ok (.lst (((wrds t).take k).map D.str)) η1 := by rw [← List.map_take]; exact frz_sl
  have a2 : frz η1 (newL ((wrds t).map D.str |>.drop (k + 1)) η1) = .ok (.lst (((wrds t).drop (k + 1)).map D.str)) η1 := by rw [← List.map_drop]; exact frz_sl
  have a3 : frz η1 (newL ((wrds t).map D.str |>.take (k + 1)) η1) = .ok (.lst (((wrds t).take (k + 1)).map D.str)) η1 := by rw [← List.map_take]; exact frz_sl
  have a4 : frz η1 (newL ((wrds t).map D.str |>.drop k) η1) = .ok (.lst (((wrds t).drop k).map D.str)) η1 := by rw [← List.map_drop]; exact frz_sl
  have a5 : frz η1 (newL ((wrds t).map D.str |>.reverse) η1) = .ok (.lst (((wrds t).reverse).map D.str)) η1 := by rw [← List.map_reverse]; exact frz_sl
  have b1 : frz η1 (binF .Add (.lst (((wrds t).take k).map D.str)) (.lst (((wrds t).drop (k + 1)).map D.str)) η1) = _ := add_sl (by rw [List.length_take, List.length_drop]; omega)
  have b2 : frz η1 (binF .Add (.lst (((wrds t).take (k + 1)).map D.str)) (.lst (((wrds t).drop k).map D.str)) η1) = _ := add_sl (by rw [List.length_take, List.length_drop]; omega)
  obtain ⟨ds, hds⟩ : ∃ ds, ds = (fiveW (wrds t) k).map fun r => D.lst (r.map D.str) := ⟨_, rfl⟩
  have c1 : frz η1 (newL [.lst ((wrds t).map D.str), .lst (((wrds t).take k ++ (wrds t).drop (k + 1)).map D.str), .lst (((wrds t).take (k + 1) ++ (wrds t).drop k).map D.str), .lst ((wrds t).reverse.map D.str), .lst (((wrds t).take (k + 1)).map D.str)] η1) = .ok (.lst ds) η1 := by
    rw [hds]
    exact frz_newN (xs := (fiveW (wrds t) k).map fun r => D.lst (r.map D.str)) (noRefs_map fun r _ => by
      show noRefs (r.map D.str) = true
      exact noRefs_map fun _ _ => rfl)
  obtain ⟨env', η', f1, s7', f2, f3⟩ := for_ok (i := iVal (xFrz (xLst (xCons (xVar 5) (xCons (xFrz (x2 (binF .Add) (xFrz (xSlc (xVar 5) xNoPart (xPart (xVar 6)))) (xFrz (xSlc (xVar 5) (xPart (xFrz (x2 (binF .Add) (xVar 6) (xC (.int 1))))) xNoPart)))) (xCons (xFrz (x2 (binF .Add) (xFrz (xSlc (xVar 5) xNoPart (xPart (xFrz (x2 (binF .Add) (xVar 6) (xC (.int 1))))))) (xFrz (xSlc (xVar 5) (xPart (xVar 6)) xNoPart)))) (xCons (xFrz (xStp (xVar 5) xNoPart xNoPart (xPart (x1 negD (xC (.int 1)))))) (xCons (xFrz (xSlc (xVar 5) xNoPart (xPart (xFrz (x2 (binF .Add) (xVar 6) (xC (.int 1))))))) (xNil)))))))))
    (g := gSlot 7) (s := sSeq (sIf (xNotT (xTru (xCall (gst (Q (n + 9))) f__law_again [] (xCons (xBm (gst (Q (n + 9))) "join" (xC (.str " ")) (xCons (xVar 7) (xNil))) (xNil))))) (sSeq (sRet (xC (.bl false))) (sPass)) (sPass)) (sPass))
    (xs := fiveW (wrds t) k) (e := fun r => .lst (r.map D.str)) (env := [some (.ref p), d1, some (.str t), d3, d4, some (.lst ((wrds t).map D.str)), some (.int (k : Nat)), s7, none, none]) (η := η1)
    (fun done env η' => ∃ s7', env = [some (.ref p), d1, some (.str t), d3, d4, some (.lst ((wrds t).map D.str)), some (.int (k : Nat)), s7', none, none] ∧ η' = η1)
    (wk_lst (ds := ds) (by simp only [↓evD, evU, evV, frz_newN, Option.bind_some, Bool.not_true, Bool.not_false, Bool.and_true, Bool.and_self, decide_true, decide_false, sizeLine_eq, Int.reduceLE, Int.reduceLT, Int.reduceBEq, Int.reduceAdd, Int.reduceSub, Int.cast_ofNat_Int, Int.natCast_zero, Int.natCast_one, List.length_cons, List.length_nil, Nat.reduceLeDiff, Nat.reduceAdd, Nat.reduceEqDiff, List.getElem?_cons_zero, List.getElem?_cons_succ, List.set_cons_zero, List.set_cons_succ, List.append_nil, List.nil_append, List.cons_append, slc_to, slc_from, pl, a1, a2, a3, a4, a5, b1, b2, xStp_, neg_one, stp_rev, c1]) hds) ⟨s7, rfl, rfl⟩ (fun done r rest hxs env η' hP => by
      obtain ⟨s7', rfl, rfl⟩ := hP
      obtain ⟨g1, g2, g3, g4⟩ := five_tx ht hk (r := r) (by rw [hxs]; simp)
      refine ⟨_, _, ?_, some (.lst (r.map D.str)), rfl, rfl⟩
      show sSeq _ _ [some (.ref p), d1, some (.str t), d3, d4, some (.lst ((wrds t).map D.str)), some (.int (k : Nat)), some (.lst (r.map D.str)), none, none] η' = _
      simp only [↓evD, evU, evV, frz_newN, Option.bind_some, Bool.not_true, Bool.not_false, Bool.and_true, Bool.and_self, decide_true, decide_false, sizeLine_eq, Int.reduceLE, Int.reduceLT, Int.reduceBEq, Int.reduceAdd, Int.reduceSub, Int.cast_ofNat_Int, Int.natCast_zero, Int.natCast_one, List.length_cons, List.length_nil, Nat.reduceLeDiff, Nat.reduceAdd, Nat.reduceEqDiff, List.getElem?_cons_zero, List.getElem?_cons_succ, List.set_cons_zero, List.set_cons_succ, List.append_nil, List.nil_append, List.cons_append, gst_F, gst_M, gst_mok, mok_join, join_lw g4 g3, again_ok (n := n) g1 g2])
  subst f2 f3
  refine ⟨some (.lst ((wrds t).map D.str)), some (.int (k : Nat)), s7', ?_⟩
  unfold textS
  simp only [↓evD, evU, evV, frz_newN, Option.bind_some, Bool.not_true, Bool.not_false, Bool.and_true, Bool.and_self, decide_true, decide_false, sizeLine_eq, Int.reduceLE, Int.reduceLT, Int.reduceBEq, Int.reduceAdd, Int.reduceSub, Int.cast_ofNat_Int, Int.natCast_zero, Int.natCast_one, List.length_cons, List.length_nil, Nat.reduceLeDiff, Nat.reduceAdd, Nat.reduceEqDiff, List.getElem?_cons_zero, List.getElem?_cons_succ, List.set_cons_zero, List.set_cons_succ, List.append_nil, List.nil_append, List.cons_append, gst_F, gst_M, gst_B, gst_mok, mok_split, sp, ln, k3, f1]
/-- a loop that finds nothing -/
theorem none_run {α : Type} {F : Nat → List D → Hv → R D} {fT : Nat} {vp : Nat} {xs : List α} {f : α → D} {tx : α → Str} {env0 : Ev} (hlen : env0.length = 10) (hv1 : vp ≠ 1) (hv9 : vp ≠ 9) (hv : env0[vp]? = some (some (.lst (xs.map f)))) (hl : xs.length ≤ 1000)
    (hN : ∀ x, noRef (f x) = true) (hT : ∀ x ∈ xs, ∀ η, F fT [f x] η = .ok (.str (tx x)) η) (ha : ∀ x ∈ xs, asc (tx x) = true) (hE : ∀ x ∈ xs, ∀ y ∈ xs, ∀ η, cmpF .Eq (f x) (f y) η = .ok (.bl (decide (tx x = tx y))) η) : ∃ d1, sFor (iVal (xVar vp)) (gSlot 1) (sSeq (sIf (xBool (x2 (cmpF .NotEq) (xFrz (xComp [9] (iVal (xVar vp)) (gSlot 9) (xBool (x2 (cmpF .NotEq) (x2 (cmpF .Eq) (xCall (gst F) fT [] (xCons (xVar 1) (xNil))) (xCall (gst F) fT [] (xCons (xVar 9) (xNil)))) (x2 (cmpF .Eq) (xVar 1) (xVar 9)))) (xVar 9))) (xFrz (xLst (xNil))))) (sSeq (sRet (xC (.bl false))) (sPass)) (sPass)) (sPass)) env0 η = .nxt (env0.set 1 d1) η := by
  have nr : True := trivial
  obtain ⟨env', η', f1, d1, f2, f3⟩ := for_ok (i := iVal (xVar vp)) (g := gSlot 1) (s := sSeq (sIf (xBool (x2 (cmpF .NotEq) (xFrz (xComp [9] (iVal (xVar vp)) (gSlot 9) (xBool (x2 (cmpF .NotEq) (x2 (cmpF .Eq) (xCall (gst F) fT [] (xCons (xVar 1) (xNil))) (xCall (gst F) fT [] (xCons (xVar 9) (xNil)))) (x2 (cmpF .Eq) (xVar 1) (xVar 9)))) (xVar 9))) (xFrz (xLst (xNil))))) (sSeq (sRet (xC (.bl false))) (sPass)) (sPass)) (sPass))
    (xs := xs) (e := f) (env := env0) (η := η) (fun done env η' => ∃ d1, env = env0.set 1 d1 ∧ η' = η)
    (wk_lst (by unfold xVar; rw [hv]) rfl) ⟨env0[1]'(by omega), by rw [List.set_getElem_self], rfl⟩ (fun done x rest hxs env η' hP => by
      obtain ⟨d1, rfl, rfl⟩ := hP
      have hx : x ∈ xs := by rw [hxs]; simp
      refine ⟨env0.set 1 (some (f x)), η', ?_, some (f x), rfl, rfl⟩
      show sSeq _ _ ((env0.set 1 d1).set 1 (some (f x))) η' = _
      rw [List.set_set]
      have v1 : (env0.set 1 (some (f x)))[vp]? = some (some (.lst (xs.map f))) := by rw [List.getElem?_set_ne (Ne.symm hv1)]; exact hv
      have cm := compF (own := [9]) (i := iVal (xVar vp)) (g := gSlot 9) (t := xBool (x2 (cmpF .NotEq) (x2 (cmpF .Eq) (xCall (gst F) fT [] (xCons (xVar 1) (xNil))) (xCall (gst F) fT [] (xCons (xVar 9) (xNil)))) (x2 (cmpF .Eq) (xVar 1) (xVar 9)))) (m := xVar 9) (env := env0.set 1 (some (f x))) (η := η') (xs := xs) (e := f) (fun _ => false) f (wk_lst (by unfold xVar; rw [v1]) rfl) (by rw [sizeLine_eq]; omega) (fun y hy G => ⟨_, rfl, by
        have w1 : ((wipeE (env0.set 1 (some (f x))) [9]).set 9 (some (f y)))[1]? = some (some (f x)) := by
          show (((env0.set 1 (some (f x))).set 9 none).set 9 (some (f y)))[1]? = _
          rw [List.getElem?_set_ne (by omega), List.getElem?_set_ne (by omega), List.getElem?_set_self (by omega)]
        have w9 : ((wipeE (env0.set 1 (some (f x))) [9]).set 9 (some (f y)))[9]? = some (some (f y)) := List.getElem?_set_self (by
          show 9 < ((env0.set 1 (some (f x))).set 9 none).length
          rw [List.length_set, List.length_set]; omega)
        have q1 : ∀ η, cmpF .Eq (.str (tx x)) (.str (tx y)) η = .ok (.bl (decide (tx x = tx y))) η := fun η => by rw [eq_s (ha x hx) (ha y hy), beq_dec]
        simp only [↓evD, evU, evV, frz_newN, Option.bind_some, Bool.not_true, Bool.not_false, Bool.and_true, Bool.and_self, decide_true, decide_false, sizeLine_eq, Int.reduceLE, Int.reduceLT, Int.reduceBEq, Int.reduceAdd, Int.reduceSub, Int.cast_ofNat_Int, Int.natCast_zero, Int.natCast_one, List.length_cons, List.length_nil, Nat.reduceLeDiff, Nat.reduceAdd, Nat.reduceEqDiff, List.getElem?_cons_zero, List.getElem?_cons_succ, List.set_cons_zero, List.set_cons_succ, List.append_nil, List.nil_append, List.cons_append, w1, w9, gst_F, hT x hx, hT y hy, q1, hE x hx y hy, ne_bl], fun h => by cases h⟩) (fun x _ => ltD_of (hN x))
      rw [List.filter_eq_nil_iff.mpr (fun _ _ h => by cases h), List.map_nil] at cm
      simp only [↓evD, evU, evV, frz_newN, Option.bind_some, Bool.not_true, Bool.not_false, Bool.and_true, Bool.and_self, decide_true, decide_false, sizeLine_eq, Int.reduceLE, Int.reduceLT, Int.reduceBEq, Int.reduceAdd, Int.reduceSub, Int.cast_ofNat_Int, Int.natCast_zero, Int.natCast_one, List.length_cons, List.length_nil, Nat.reduceLeDiff, Nat.reduceAdd, Nat.reduceEqDiff, List.getElem?_cons_zero, List.getElem?_cons_succ, List.set_cons_zero, List.set_cons_succ, List.append_nil, List.nil_append, List.cons_append, cm, ne_nils])
  subst f2 f3
  exact ⟨d1, f1⟩
theorem right_ok (h : η[p]? = some (st3 s)) : ∃ s', Q (n + 10) f__law_right [.ref p] η = .ok (.bl true) (η.set p (st3 s')) := by
  rw [u__law_right]
  have i4 : ∀ (env : Ev) (η : Hv), WkOk (iRng1 (xC (.int 4))) env η (List.range 4) fun k : Nat => .int k := fun env η => wk_rng (n := 4) rfl (by omega)
  have i3 : ∀ (env : Ev) (η : Hv), WkOk (iRng1 (xC (.int 3))) env η (List.range 3) fun k : Nat => .int k := fun env η => wk_rng (n := 3) rfl (by omega)
  have c1 := comp_st (own := [8]) (g := gSlot 8) (m := xCall (gst (Q (n + 9))) f__law_any_order [] (xCons (xVar 0) (xNil))) (env := [some (.ref p), none, none, none, none, none, none, none, none, none]) anyG Od.d (i4 _ _) h (by rw [sizeLine_eq]; decide) (fun x hx s η h => ⟨_, rfl, by simp only [↓evD, evU, evV, frz_newN, Option.bind_some, Bool.not_true, Bool.not_false, Bool.and_true, Bool.and_self, decide_true, decide_false, sizeLine_eq, Int.reduceLE, Int.reduceLT, Int.reduceBEq, Int.reduceAdd, Int.reduceSub, Int.cast_ofNat_Int, Int.natCast_zero, Int.natCast_one, List.length_cons, List.length_nil, Nat.reduceLeDiff, Nat.reduceAdd, Nat.reduceEqDiff, List.getElem?_cons_zero, List.getElem?_cons_succ, List.set_cons_zero, List.set_cons_succ, List.append_nil, List.nil_append, List.cons_append, wipeE, gst_F, law_any_order_s (n := n + 6) h]⟩) od_noRef
  rw [List.length_range] at c1
  have ok1 := gens_all (H := anyG) (q := Od.ok) anyG_ok 4 s
  have l1 := gens_len anyG 4 s
  generalize (gens anyG 4 s).1 = os at *
  generalize (gens anyG 4 s).2 = s1 at *
  have h1 : (η.set p (st3 s1))[p]? = some (st3 s1) := get_set h
  have c2 := comp_st (own := [8]) (g := gSlot 8) (m := xCall (gst (Q (n + 9))) f__law_any_weather [] (xCons (xVar 0) (xCons (xC (.int 60)) (xNil)))) (env := [some (.ref p), none, none, none, none, none, none, none, none, none]) (wethG 60) wD (i3 _ _) h1 (by rw [sizeLine_eq]; decide) (fun x hx s η h => ⟨_, rfl, by
    have := law_any_weather_s (n := n + 7) (far := 60) h (by omega) (by omega)
    have this : Q (n + 9) f__law_any_weather [.ref p, .int 60] η = _ := this
    simp only [↓evD, evU, evV, frz_newN, Option.bind_some, Bool.not_true, Bool.not_false, Bool.and_true, Bool.and_self, decide_true, decide_false, sizeLine_eq, Int.reduceLE, Int.reduceLT, Int.reduceBEq, Int.reduceAdd, Int.reduceSub, Int.cast_ofNat_Int, Int.natCast_zero, Int.natCast_one, List.length_cons, List.length_nil, Nat.reduceLeDiff, Nat.reduceAdd, Nat.reduceEqDiff, List.getElem?_cons_zero, List.getElem?_cons_succ, List.set_cons_zero, List.set_cons_succ, List.append_nil, List.nil_append, List.cons_append, wipeE, gst_F, this]⟩) wD_noRef
  rw [List.length_range, List.set_set] at c2
  have ok2 := gens_all (H := wethG 60) (q := WOk) (wethG_ok (by omega) (by omega)) 3 s1
  have l2 := gens_len (wethG 60) 3 s1
  generalize (gens (wethG 60) 3 s1).1 = ws at *
  generalize (gens (wethG 60) 3 s1).2 = s2 at *
  have h2 : (η.set p (st3 s2))[p]? = some (st3 s2) := get_set h
  have hlen : (η.set p (st3 s2)).length = η.length := List.length_set ..
  suffices hs : ∃ s', m__law_right (Q (n + 9)) [some (.ref p), none, none, none, none, none, none, none, none, none] η = .ret (.bl true) (η.set p (st3 s')) by
    obtain ⟨s', hs⟩ := hs
    exact ⟨s', fin_ret hs (List.length_set ..)⟩
  obtain ⟨d1, n1⟩ := none_run (F := Q (n + 9)) (fT := f_order_text) (vp := 3) (xs := os) (f := Od.d) (tx := oT) (env0 := [some (.ref p), none, none, some (.lst (os.map Od.d)), some (.lst (ws.map wD)), none, none, none, none, none]) (η := η.set p (st3 s2)) rfl (by decide) (by decide) rfl (by omega) od_noRef (fun o ho η => order_text_od (n := n + 2) (ok1 o ho)) (fun o _ => asc_oT o) (fun o ho o' ho' η => eq_od (ok1 o ho) (ok1 o' ho'))
  obtain ⟨d2, n2⟩ := none_run (F := Q (n + 9)) (fT := f_weather_text) (vp := 4) (xs := ws) (f := wD) (tx := wT) (env0 := [some (.ref p), d1, none, some (.lst (os.map Od.d)), some (.lst (ws.map wD)), none, none, none, none, none]) (η := η.set p (st3 s2)) rfl (by decide) (by decide) rfl (by omega) wD_noRef (fun w hw η => weather_text_w (n := n + 3) (ok2 w hw)) (fun w _ => asc_wT w) (fun w hw w' hw' η => eq_w (ok2 w hw) (ok2 w' hw'))
  have e1 : ([some (.ref p), none, none, some (.lst (os.map Od.d)), some (.lst (ws.map wD)), none, none, none, none, none] : Ev).set 1 d1 = [some (.ref p), d1, none, some (.lst (os.map Od.d)), some (.lst (ws.map wD)), none, none, none, none, none] := rfl
  have e2 : ([some (.ref p), d1, none, some (.lst (os.map Od.d)), some (.lst (ws.map wD)), none, none, none, none, none] : Ev).set 1 d2 = [some (.ref p), d2, none, some (.lst (os.map Od.d)), some (.lst (ws.map wD)), none, none, none, none, none] := rfl
  rw [e1] at n1
  rw [e2] at n2
  have t1 := compM (own := [1]) (i := iVal (xVar 3)) (g := gSlot 1) (m := xCall (gst (Q (n + 9))) f_order_text [] (xCons (xVar 1) (xNil))) (env := [some (.ref p), d2, none, some (.lst (os.map Od.d)), some (.lst (ws.map wD)), none, none, none, none, none]) (η := η.set p (st3 s2)) (xs := os) (e := Od.d) (fun o => .str (oT o)) (wk_lst rfl rfl) (by rw [sizeLine_eq]; omega) (fun o ho G => ⟨_, rfl, by simp only [↓evD, evU, evV, frz_newN, Option.bind_some, Bool.not_true, Bool.not_false, Bool.and_true, Bool.and_self, decide_true, decide_false, sizeLine_eq, Int.reduceLE, Int.reduceLT, Int.reduceBEq, Int.reduceAdd, Int.reduceSub, Int.cast_ofNat_Int, Int.natCast_zero, Int.natCast_one, List.length_cons, List.length_nil, Nat.reduceLeDiff, Nat.reduceAdd, Nat.reduceEqDiff, List.getElem?_cons_zero, List.getElem?_cons_succ, List.set_cons_zero, List.set_cons_succ, List.append_nil, List.nil_append, List.cons_append, wipeE, gst_F, order_text_od (n := n + 2) (ok1 o ho)]⟩) (fun _ _ => rfl)
  have t2 := compM (own := [1]) (i := iVal (xVar 4)) (g := gSlot 1) (m := xCall (gst (Q (n + 9))) f_weather_text [] (xCons (xVar 1) (xNil))) (env := [some (.ref p), d2, none, some (.lst (os.map Od.d)), some (.lst (ws.map wD)), none, none, none, none, none]) (η := η.set p (st3 s2)) (xs := ws) (e := wD) (fun w => .str (wT w)) (wk_lst rfl rfl) (by rw [sizeLine_eq]; omega) (fun w hw G => ⟨_, rfl, by simp only [↓evD, evU, evV, frz_newN, Option.bind_some, Bool.not_true, Bool.not_false, Bool.and_true, Bool.and_self, decide_true, decide_false, sizeLine_eq, Int.reduceLE, Int.reduceLT, Int.reduceBEq, Int.reduceAdd, Int.reduceSub, Int.cast_ofNat_Int, Int.natCast_zero, Int.natCast_one, List.length_cons, List.length_nil, Nat.reduceLeDiff, Nat.reduceAdd, Nat.reduceEqDiff, List.getElem?_cons_zero, List.getElem?_cons_succ, List.set_cons_zero, List.set_cons_succ, List.append_nil, List.nil_append, List.cons_append, wipeE, gst_F, weather_text_w (n := n + 3) (ok2 w hw)]⟩) (fun _ _ => rfl)
  have t3 : frz (η.set p (st3 s2)) (binF .Add (.lst (os.map fun o => .str (oT o))) (.lst (ws.map fun w => .str (wT w))) (η.set p (st3 s2))) = .ok (.lst ((os.map oT ++ ws.map wT).map D.str)) (η.set p (st3 s2)) := by
    have := add_sl (η := η.set p (st3 s2)) (xs := os.map oT) (ys := ws.map wT) (by rw [List.length_map, List.length_map]; omega)
    rw [List.map_map, List.map_map] at this
    exact this
  have tx : ∀ t ∈ os.map oT ++ ws.map wT, TxOk t := fun t ht => by
    rcases List.mem_append.mp ht with ht | ht
    · obtain ⟨o, ho, rfl⟩ := List.mem_map.mp ht
      exact oT_tx (ok1 o ho)
    · obtain ⟨w, hw, rfl⟩ := List.mem_map.mp ht
      exact wT_tx (ok2 w hw)
  obtain ⟨env', η', f1, s', s5, s6, s7, sx, f2, f3⟩ := for_ok (i := iVal (xFrz (x2 (binF .Add) (xFrz (xComp [1] (iVal (xVar 3)) (gSlot 1) tYesB (xCall (gst (Q (n + 9))) f_order_text [] (xCons (xVar 1) (xNil))))) (xFrz (xComp [1] (iVal (xVar 4)) (gSlot 1) tYesB (xCall (gst (Q (n + 9))) f_weather_text [] (xCons (xVar 1) (xNil))))))))
    (g := gSlot 2) (s := textS (Q (n + 9))) (xs := os.map oT ++ ws.map wT) (e := D.str) (env := [some (.ref p), d2, none, some (.lst (os.map Od.d)), some (.lst (ws.map wD)), none, none, none, none, none]) (η := η.set p (st3 s2))
    (fun done env η' => ∃ s' s5 s6 s7 sx, env = [some (.ref p), d2, sx, some (.lst (os.map Od.d)), some (.lst (ws.map wD)), s5, s6, s7, none, none] ∧ η' = η.set p (st3 s'))
    (wk_lst (by simp only [↓evD, evU, evV, frz_newN, Option.bind_some, Bool.not_true, Bool.not_false, Bool.and_true, Bool.and_self, decide_true, decide_false, sizeLine_eq, Int.reduceLE, Int.reduceLT, Int.reduceBEq, Int.reduceAdd, Int.reduceSub, Int.cast_ofNat_Int, Int.natCast_zero, Int.natCast_one, List.length_cons, List.length_nil, Nat.reduceLeDiff, Nat.reduceAdd, Nat.reduceEqDiff, List.getElem?_cons_zero, List.getElem?_cons_succ, List.set_cons_zero, List.set_cons_succ, List.append_nil, List.nil_append, List.cons_append, t1, t2, t3]) rfl) ⟨s2, none, none, none, none, rfl, rfl⟩ (fun done t rest hxs env η' hP => by
      obtain ⟨s', s5, s6, s7, sx, rfl, rfl⟩ := hP
      obtain ⟨s5', s6', s7', r1⟩ := text_run (n := n) (p := p) (s := s') (η := η.set p (st3 s')) (t := t) (d1 := d2) (d3 := some (.lst (os.map Od.d))) (d4 := some (.lst (ws.map wD))) (s5 := s5) (s6 := s6) (s7 := s7) (env := []) (get_set h) (tx t (by rw [hxs]; simp))
      rw [List.set_set] at r1
      exact ⟨_, _, r1, _, s5', s6', s7', some (.str t), rfl, rfl⟩)
  subst f2 f3
  refine ⟨s', ?_⟩
  unfold textS at f1
  unfold m__law_right
  simp only [↓evD, evU, evV, frz_newN, Option.bind_some, Bool.not_true, Bool.not_false, Bool.and_true, Bool.and_self, decide_true, decide_false, sizeLine_eq, Int.reduceLE, Int.reduceLT, Int.reduceBEq, Int.reduceAdd, Int.reduceSub, Int.cast_ofNat_Int, Int.natCast_zero, Int.natCast_one, List.length_cons, List.length_nil, Nat.reduceLeDiff, Nat.reduceAdd, Nat.reduceEqDiff, List.getElem?_cons_zero, List.getElem?_cons_succ, List.set_cons_zero, List.set_cons_succ, List.append_nil, List.nil_append, List.cons_append, c1, c2, n1, n2, f1]
/-! ### the law -/
theorem cell_ok {xs : List D} {c : Int} {k : Nat} (hx : xs[k]? = some (.int c)) (hl : xs.length ≤ 63) : Q (n + 1) f__law_cell_at [.scr xs, .int k] η = .ok (.int c) η := by
  rw [u__law_cell_at]
  refine fin_r ?_
  have hk := (List.getElem?_eq_some_iff.mp hx).1
  have ln : biH .len [.scr xs] η = .ok (.int xs.length) η := rfl
  have c1 : decide ((k : Int) < (xs.length : Int)) = true := decide_eq_true (by omega)
  have d0 : dctOf η (.scr xs) = none := rfl
  have x1 : sixD (.scr xs) (.int k) η = .ok (.int c) η := by
    show (match L2.atI xs (k : Int) with
      | some x => R.ok x η
      | none => .bad) = _
    rw [L2.atI_nat hx]
  unfold m__law_cell_at
  simp only [↓evD, evU, evV, frz_newN, Option.bind_some, Bool.not_true, Bool.not_false, Bool.and_true, Bool.and_self, decide_true, decide_false, sizeLine_eq, Int.reduceLE, Int.reduceLT, Int.reduceBEq, Int.reduceAdd, Int.reduceSub, Int.cast_ofNat_Int, Int.natCast_zero, Int.natCast_one, List.length_cons, List.length_nil, Nat.reduceLeDiff, Nat.reduceAdd, Nat.reduceEqDiff, List.getElem?_cons_zero, List.getElem?_cons_succ, List.set_cons_zero, List.set_cons_succ, List.append_nil, List.nil_append, List.cons_append, gst_B, ln, c1, d0, x1]
theorem cell_no {xs : List D} {k : Nat} (hk : xs.length ≤ k) : Q (n + 1) f__law_cell_at [.scr xs, .int k] η = .ok (.int 0) η := by
  rw [u__law_cell_at]
  refine fin_r ?_
  have ln : biH .len [.scr xs] η = .ok (.int xs.length) η := rfl
  have c1 : decide ((k : Int) < (xs.length : Int)) = false := decide_eq_false (by omega)
  unfold m__law_cell_at
  simp only [↓evD, evU, evV, frz_newN, Option.bind_some, Bool.not_true, Bool.not_false, Bool.and_true, Bool.and_self, decide_true, decide_false, sizeLine_eq, Int.reduceLE, Int.reduceLT, Int.reduceBEq, Int.reduceAdd, Int.reduceSub, Int.cast_ofNat_Int, Int.natCast_zero, Int.natCast_one, List.length_cons, List.length_nil, Nat.reduceLeDiff, Nat.reduceAdd, Nat.reduceEqDiff, List.getElem?_cons_zero, List.getElem?_cons_succ, List.set_cons_zero, List.set_cons_succ, List.append_nil, List.nil_append, List.cons_append, gst_B, ln, c1]
theorem state_ok {ns : List Int} {k : Nat} (hl : ns.length ≤ 63) : ∃ s : S3, Q (n + 2) f__law_state [.scr (ns.map .int), .int k] η = .ok (.ref η.length) (η ++ [st3 s]) := by
  obtain ⟨c, hc⟩ : ∃ c : Int, Q (n + 1) f__law_cell_at [.scr (ns.map D.int), .int k] η = .ok (.int c) η := by
    by_cases hk : k < ns.length
    · exact ⟨ns[k], cell_ok (by rw [List.getElem?_map, List.getElem?_eq_getElem hk]; rfl) (by rw [List.length_map]; exact hl)⟩
    · exact ⟨0, cell_no (by rw [List.length_map]; omega)⟩
  refine ⟨⟨max 0 (c - 1000000000000000000), c % 2147483629 + 1, 0⟩, ?_⟩
  rw [u__law_state]
  have pw : ∀ η : Hv, binF .Pow (.int 10) (.int 18) η = .ok (.int 1000000000000000000) η := fun η => by kernel_rfl
  have mx : ∀ η : Hv, biH .max [.int 0, .int (c - 1000000000000000000)] η = .ok (.int (max 0 (c - 1000000000000000000))) η := fun η => by
    show R.ok (D.int (if (0 : Int) < c - 1000000000000000000 then c - 1000000000000000000 else 0)) η = _
    congr 2
    by_cases z : (0 : Int) < c - 1000000000000000000
    · rw [if_pos z]; omega
    · rw [if_neg z]; omega
  have md : ∀ η : Hv, binF .Mod (.int c) (.int 2147483629) η = .ok (.int (c % 2147483629)) η := fun η => mod_int (by omega)
  have e : m__law_state (Q (n + 1)) [some (.scr (ns.map D.int)), some (.int k), none] η = .ret (.ref η.length) (η ++ [st3 ⟨max 0 (c - 1000000000000000000), c % 2147483629 + 1, 0⟩]) := by
    unfold m__law_state
    simp only [↓evD, evU, evV, frz_newN, Option.bind_some, Bool.not_true, Bool.not_false, Bool.and_true, Bool.and_self, decide_true, decide_false, sizeLine_eq, Int.reduceLE, Int.reduceLT, Int.reduceBEq, Int.reduceAdd, Int.reduceSub, Int.cast_ofNat_Int, Int.natCast_zero, Int.natCast_one, List.length_cons, List.length_nil, Nat.reduceLeDiff, Nat.reduceAdd, Nat.reduceEqDiff, List.getElem?_cons_zero, List.getElem?_cons_succ, List.set_cons_zero, List.set_cons_succ, List.append_nil, List.nil_append, List.cons_append, gst_F, gst_B, hc, pw, minus_int, mx, md, plus_int]
    rfl
  rw [e]
  rfl
end Mi
end

section
set_option maxRecDepth 100000
set_option maxHeartbeats 4000000
/-! K67x: the law k64: the whole. -/
noncomputable section
namespace Mi
open PySem En Tx
variable {n p : Nat} {η : Hv} {s : S3}
theorem laps_ok {many : Nat} {env : Ev} (hm : many ≤ 100) (hl : env.length = 4) (h0 : env[2]? = some (some (.ref p))) (h : η[p]? = some (st3 s)) : ∃ d s', sFor (iRng1 (xC (.int (many : Nat)))) (gSlot 3) (sSeq (sIf (xNotT (xTru (xCall (gst (Q (n + 10))) f__law_right [] (xCons (xVar 2) (xNil))))) (sSeq (sRet (xC (.bl false))) (sPass)) (sPass)) (sPass)) env η = .nxt (env.set 3 d) (η.set p (st3 s')) := by
  obtain ⟨env', η', f1, d, s', f2, f3⟩ := for_ok (i := iRng1 (xC (.int (many : Nat)))) (g := gSlot 3) (s := sSeq (sIf (xNotT (xTru (xCall (gst (Q (n + 10))) f__law_right [] (xCons (xVar 2) (xNil))))) (sSeq (sRet (xC (.bl false))) (sPass)) (sPass)) (sPass))
    (xs := List.range many) (e := fun k : Nat => .int k) (env := env) (η := η) (fun done env' η' => ∃ d s', env' = env.set 3 d ∧ η' = η.set p (st3 s'))
    (wk_rng rfl (by omega)) ⟨env[3]'(by omega), s, by rw [List.set_getElem_self], (List.ext_getElem? fun k => by
      by_cases hk : p = k
      · subst hk; rw [get_set h, h]
      · rw [List.getElem?_set_ne hk])⟩ (fun done x rest hxs env' η' hP => by
      obtain ⟨d, s', rfl, rfl⟩ := hP
      obtain ⟨s2, r⟩ := right_ok (n := n) (p := p) (s := s') (η := η.set p (st3 s')) (get_set h)
      rw [List.set_set] at r
      have e2 : (env.set 3 (some (.int (x : Nat))))[2]? = some (some (.ref p)) := by rw [List.getElem?_set_ne (by omega)]; exact h0
      refine ⟨env.set 3 (some (.int (x : Nat))), η.set p (st3 s2), ?_, some (.int (x : Nat)), s2, rfl, rfl⟩
      show sSeq _ _ ((env.set 3 d).set 3 (some (.int (x : Nat)))) _ = _
      rw [List.set_set]
      simp only [↓evD, evU, evV, frz_newN, Option.bind_some, Bool.not_true, Bool.not_false, Bool.and_true, Bool.and_self, decide_true, decide_false, sizeLine_eq, Int.reduceLE, Int.reduceLT, Int.reduceBEq, Int.reduceAdd, Int.reduceSub, Int.cast_ofNat_Int, Int.natCast_zero, Int.natCast_one, List.length_cons, List.length_nil, Nat.reduceLeDiff, Nat.reduceAdd, Nat.reduceEqDiff, List.getElem?_cons_zero, List.getElem?_cons_succ, List.set_cons_zero, List.set_cons_succ, List.append_nil, List.nil_append, List.cons_append, gst_F, e2, r])
  subst f2 f3
  exact ⟨d, s', f1⟩
theorem law_ok {ns : List Int} (hl : ns.length ≤ 63) : Q (n + 12) f_law [.scr (ns.map .int)] [] = .ok (.bl true) [] := by
  rw [u_law]
  obtain ⟨K, hK, k1⟩ : ∃ K : Nat, K ≤ 3 ∧ ∀ η : Hv, biH .max [.int 1, .int (if (3 : Int) < (ns.length : Int) then 3 else (ns.length : Int))] η = .ok (.int (K : Nat)) η := by
    refine ⟨max 1 (min ns.length 3), by omega, fun η => ?_⟩
    show R.ok (D.int (if (1 : Int) < (if (3 : Int) < (ns.length : Int) then 3 else (ns.length : Int)) then (if (3 : Int) < (ns.length : Int) then 3 else (ns.length : Int)) else 1)) η = _
    congr 2
    split <;> split <;> omega
  have ln : ∀ η : Hv, biH .len [.scr (ns.map D.int)] η = .ok (.int ns.length) η := fun η => by
    show R.ok (D.int (((ns.map D.int).length : Nat) : Int)) η = _
    rw [List.length_map]
  have mn : ∀ η : Hv, biH .min [.int (ns.length : Int), .int 3] η = .ok (.int (if (3 : Int) < (ns.length : Int) then 3 else (ns.length : Int))) η := fun η => rfl
  have wi : WkOk (iRng1 (xFn (biH .max) (xCons (xC (.int 1)) (xCons (xFn (biH .min) (xCons (xFn (biH .len) (xCons (xVar 0) (xNil))) (xCons (xC (.int 3)) (xNil)))) (xNil))))) [some (.scr (ns.map D.int)), none, none, none] [] (List.range K) fun k : Nat => .int k := wk_rng (by simp only [↓evD, evU, evV, frz_newN, Option.bind_some, Bool.not_true, Bool.not_false, Bool.and_true, Bool.and_self, decide_true, decide_false, sizeLine_eq, Int.reduceLE, Int.reduceLT, Int.reduceBEq, Int.reduceAdd, Int.reduceSub, Int.cast_ofNat_Int, Int.natCast_zero, Int.natCast_one, List.length_cons, List.length_nil, Nat.reduceLeDiff, Nat.reduceAdd, Nat.reduceEqDiff, List.getElem?_cons_zero, List.getElem?_cons_succ, List.set_cons_zero, List.set_cons_succ, List.append_nil, List.nil_append, List.cons_append, ln, mn, k1]) (by omega)
  obtain ⟨env', η', f1, d1, d2, d3, f2⟩ := for_ok (g := gSlot 1) (s := sSeq (sAsg (xCall (gst (Q (n + 11))) f__law_state [] (xCons (xVar 0) (xCons (xVar 1) (xNil)))) (gSlot 2)) (sSeq (sFor (iRng1 (xC (.int 3))) (gSlot 3) (sSeq (sIf (xNotT (xTru (xCall (gst (Q (n + 11))) f__law_right [] (xCons (xVar 2) (xNil))))) (sSeq (sRet (xC (.bl false))) (sPass)) (sPass)) (sPass))) (sPass)))
    (fun done env' η' => ∃ d1 d2 d3, env' = [some (.scr (ns.map D.int)), d1, d2, d3]) wi ⟨none, none, none, rfl⟩ (fun done x rest hxs env' η' hP => by
      obtain ⟨d1, d2, d3, rfl⟩ := hP
      obtain ⟨s, st⟩ := state_ok (n := n + 9) (η := η') (k := x) hl
      obtain ⟨d, s', lp⟩ := laps_ok (n := n + 1) (many := 3) (env := [some (.scr (ns.map D.int)), some (.int x), some (.ref η'.length), d3]) (p := η'.length) (η := η' ++ [st3 s]) (s := s) (by omega) rfl rfl at_len
      have lp : sFor (iRng1 (xC (.int 3))) (gSlot 3) (sSeq (sIf (xNotT (xTru (xCall (gst (Q (n + 11))) f__law_right [] (xCons (xVar 2) (xNil))))) (sSeq (sRet (xC (.bl false))) (sPass)) (sPass)) (sPass)) [some (.scr (ns.map D.int)), some (.int x), some (.ref η'.length), d3] (η' ++ [st3 s]) = .nxt [some (.scr (ns.map D.int)), some (.int x), some (.ref η'.length), d] ((η' ++ [st3 s]).set η'.length (st3 s')) := lp
      refine ⟨[some (.scr (ns.map D.int)), some (.int x), some (.ref η'.length), d], (η' ++ [st3 s]).set η'.length (st3 s'), ?_, some (.int x), some (.ref η'.length), d, rfl⟩
      show sSeq _ _ [some (.scr (ns.map D.int)), some (.int x), d2, d3] η' = _
      simp only [↓evD, evU, evV, frz_newN, Option.bind_some, Bool.not_true, Bool.not_false, Bool.and_true, Bool.and_self, decide_true, decide_false, sizeLine_eq, Int.reduceLE, Int.reduceLT, Int.reduceBEq, Int.reduceAdd, Int.reduceSub, Int.cast_ofNat_Int, Int.natCast_zero, Int.natCast_one, List.length_cons, List.length_nil, Nat.reduceLeDiff, Nat.reduceAdd, Nat.reduceEqDiff, List.getElem?_cons_zero, List.getElem?_cons_succ, List.set_cons_zero, List.set_cons_succ, List.append_nil, List.nil_append, List.cons_append, gst_F, st, lp])
  subst f2
  have e : m_law (Q (n + 11)) [some (.scr (ns.map D.int)), none, none, none] [] = .ret (.bl true) ([] ++ η') := by
    unfold m_law
    simp only [↓evD, evU, evV, frz_newN, Option.bind_some, Bool.not_true, Bool.not_false, Bool.and_true, Bool.and_self, decide_true, decide_false, sizeLine_eq, Int.reduceLE, Int.reduceLT, Int.reduceBEq, Int.reduceAdd, Int.reduceSub, Int.cast_ofNat_Int, Int.natCast_zero, Int.natCast_one, List.length_cons, List.length_nil, Nat.reduceLeDiff, Nat.reduceAdd, Nat.reduceEqDiff, List.getElem?_cons_zero, List.getElem?_cons_succ, List.set_cons_zero, List.set_cons_succ, List.append_nil, List.nil_append, List.cons_append, f1]
  exact fin_v (η0 := []) e rfl rfl id
end Mi
theorem k64_holds : PySem.Challenge.rw_flashkeep_k64_whole_texts.Holds :=
  holds_of (fun _ _ _ => .bad) 12 ⟨rfl, by decide, by decide⟩ fun ns hl => ⟨[], Mi.law_ok (n := 0) hl⟩
end

theorem PySem.Challenge.cw_flashkeep_k64_whole_texts_holds : PySem.Challenge.rw_flashkeep_k64_whole_texts.Holds := by
  exact k64_holds
