import PyProof.Rows.All
import Wide.All
import OpenK.AllK
import Wide.FinOn
import PyProof.EqAt
import PyProof.EqKinds
import PyProof.TupleCall
import HandS.ForMost
import HandS.SortInts
import HandS.IsInst
import HandS.Conv
import HandS.TupMul
import HandS.TupAny
import KE.KeyNested
import KE.KDictDisplayH
import HandS.TupSets
import HandS.Text
import PyProof.StrOps2
import HandS.WordsExc
import HandS.ExcInit
import HandS.ExcField
import HandS.ExcIs
import HandS.ClsMeth
import KE.KExcIs
import HandS.SetFor
import HandS.Deep
import HandS.SortKw
import KE.DatumOrd
import HandS.EndTab
import KE.KNestM
import KE.KDflt
import HandS.Nested
import PySem.Challenge.RW_twincount_k01_setups_refused
set_option Elab.async false
set_option linter.all false
set_option autoImplicit false
set_option maxRecDepth 100000
set_option maxHeartbeats 4000000
/-! The data layer: what a body does, told over plain data D, with a memory of the objects that change. -/
namespace Dl
open PySem PySem.Spec PyProof.Rows L2

/-- data: a value with all that stands behind it; raw: a value as it is (an address of a thing that may change) -/
inductive D where
  | non | bl (b : Bool) | int (i : Int) | str (x : Str) | tup (l : List D) | lst (l : List D) | scr (l : List Int) | raw (v : V)

/-- a tuple: tracked, or one of the module's -/
def TupAt (K : PySem.W.Frag) (B : Hp) (a : Addr) (xs : List V) : Prop := B a = some (.tup xs) ∨
  ∃ (o : Obj) (its : Array Value) (n : Nat), K.lookup a = some o ∧ o.cls = .type "tuple" ∧ o.data = .seq its n ∧ its.size ≤ sizeLine ∧ Vals xs its.toList
theorem TupAt.sq {K : PySem.W.Frag} {B : Hp} {a : Addr} {xs : List V} (h : TupAt K B a xs) : SqT K B a xs := by
  rcases h with h | h
  · exact .inl (.inl h)
  · exact .inr h
theorem tupAt_mono {K : PySem.W.Frag} {B B' : Hp} {a : Addr} {xs : List V} (s : Same B B') (h : TupAt K B a xs) : TupAt K B' a xs := by
  rcases h with h | h
  · exact .inl (s _ _ h)
  · exact .inr h
mutual
inductive Rep (K : PySem.W.Frag) (B : Hp) : V → D → Prop
  | non : Rep K B .non .non
  | bl (b : Bool) : Rep K B (.bl b) (.bl b)
  | int (i : Int) : Rep K B (.int i) (.int i)
  | str (x : Str) : Rep K B (.str x) (.str x)
  | tup {a : Addr} {xs : List V} {ds : List D} : TupAt K B a xs → Reps K B xs ds → Rep K B (.ref a) (.tup ds)
  | lst {a : Addr} {xs : List V} {ds : List D} : B a = some (.lst xs) → Reps K B xs ds → Rep K B (.ref a) (.lst ds)
  | scr {a : Addr} {ns : List Int} : SqL K B a (ns.map V.int) → Rep K B (.ref a) (.scr ns)
  | raw (v : V) : Rep K B v (.raw v)
inductive Reps (K : PySem.W.Frag) (B : Hp) : List V → List D → Prop
  | nil : Reps K B [] []
  | cons {v : V} {vs : List V} {d : D} {ds : List D} : Rep K B v d → Reps K B vs ds → Reps K B (v :: vs) (d :: ds)
end

section
variable {K : PySem.W.Frag} {B B' : Hp}
theorem rd_mono {a : Addr} {u : HO} (s : Same B B') (h : Rd B a u) : Rd B' a u := by
  rcases h with h | ⟨o, h⟩
  · exact .inl (s _ _ h)
  · exact .inr ⟨o, s _ _ h⟩
theorem sqT_mono {a : Addr} {xs : List V} (s : Same B B') (h : SqT K B a xs) : SqT K B' a xs := by
  rcases h with h | h
  · exact .inl (rd_mono s h)
  · exact .inr h
theorem sqL_mono {a : Addr} {xs : List V} (s : Same B B') (h : SqL K B a xs) : SqL K B' a xs := by
  rcases h with h | h
  · exact .inl (rd_mono s h)
  · exact .inr h
mutual
theorem Rep.mono (s : Same B B') : ∀ {v : V} {d : D}, Rep K B v d → Rep K B' v d
  | _, _, .non => .non
  | _, _, .bl b => .bl b
  | _, _, .int i => .int i
  | _, _, .str x => .str x
  | _, _, .tup h r => .tup (tupAt_mono s h) (Reps.mono s r)
  | _, _, .lst h r => .lst (s _ _ h) (Reps.mono s r)
  | _, _, .scr h => .scr (sqL_mono s h)
  | _, _, .raw v => .raw v
theorem Reps.mono (s : Same B B') : ∀ {vs : List V} {ds : List D}, Reps K B vs ds → Reps K B' vs ds
  | _, _, .nil => .nil
  | _, _, .cons h r => .cons (h.mono s) (Reps.mono s r)
end
theorem Reps.length : ∀ {vs : List V} {ds : List D}, Reps K B vs ds → vs.length = ds.length
  | _, _, .nil => rfl
  | _, _, .cons _ r => by rw [List.length_cons, List.length_cons, r.length]
theorem Reps.get : ∀ {vs : List V} {ds : List D} {i : Nat} {d : D}, Reps K B vs ds → ds[i]? = some d → ∃ v, vs[i]? = some v ∧ Rep K B v d
  | _, _, _, _, .nil, h => by simp at h
  | _, _, 0, _, .cons h _, e => by simp at e; subst e; exact ⟨_, rfl, h⟩
  | _, _, i + 1, d, .cons _ r, e => by
    obtain ⟨v, h1, h2⟩ := Reps.get (i := i) (d := d) r (by simpa using e)
    exact ⟨v, by simpa using h1, h2⟩
theorem Reps.get' : ∀ {vs : List V} {ds : List D} {i : Nat} {v : V}, Reps K B vs ds → vs[i]? = some v → ∃ d, ds[i]? = some d ∧ Rep K B v d
  | _, _, _, _, .nil, h => by simp at h
  | _, _, 0, _, .cons h _, e => by simp at e; subst e; exact ⟨_, rfl, h⟩
  | _, _, i + 1, d, .cons _ r, e => by
    obtain ⟨v, h1, h2⟩ := Reps.get' (i := i) (v := d) r (by simpa using e)
    exact ⟨v, by simpa using h1, h2⟩
theorem Reps.append : ∀ {vs ws : List V} {ds es : List D}, Reps K B vs ds → Reps K B ws es → Reps K B (vs ++ ws) (ds ++ es)
  | _, _, _, _, .nil, r => r
  | _, _, _, _, .cons h t, r => .cons h (Reps.append t r)
theorem Reps.set {v : V} {d : D} (h : Rep K B v d) : ∀ {vs : List V} {ds : List D} (i : Nat), Reps K B vs ds → Reps K B (vs.set i v) (ds.set i d)
  | _, _, _, .nil => .nil
  | _, _, 0, .cons _ t => .cons h t
  | _, _, i + 1, .cons q t => .cons q (Reps.set h i t)
theorem Reps.take : ∀ {vs : List V} {ds : List D} (n : Nat), Reps K B vs ds → Reps K B (vs.take n) (ds.take n)
  | _, _, 0, _ => .nil
  | _, _, _ + 1, .nil => .nil
  | _, _, n + 1, .cons r t => .cons r (Reps.take n t)
theorem Reps.drop : ∀ {vs : List V} {ds : List D} (n : Nat), Reps K B vs ds → Reps K B (vs.drop n) (ds.drop n)
  | _, _, 0, r => r
  | _, _, _ + 1, .nil => .nil
  | _, _, n + 1, .cons _ t => Reps.drop n t
theorem Reps.eraseIdx : ∀ {vs : List V} {ds : List D} (i : Nat), Reps K B vs ds → Reps K B (vs.eraseIdx i) (ds.eraseIdx i)
  | _, _, _, .nil => .nil
  | _, _, 0, .cons _ t => t
  | _, _, i + 1, .cons q t => .cons q (Reps.eraseIdx i t)
theorem Reps.reverse {vs : List V} {ds : List D} (r : Reps K B vs ds) : Reps K B vs.reverse ds.reverse := by
  induction vs generalizing ds with
  | nil => cases r; exact .nil
  | cons v vs ih =>
    cases r with
    | cons h t =>
      rw [List.reverse_cons, List.reverse_cons]
      exact (ih t).append (.cons h .nil)
theorem Reps.replicate {v : V} {d : D} (h : Rep K B v d) : ∀ n : Nat, Reps K B (List.replicate n v) (List.replicate n d)
  | 0 => .nil
  | n + 1 => .cons h (Reps.replicate h n)
/-- the values of plain data -/
theorem Reps.ints : ∀ (ns : List Int), Reps K B (ns.map V.int) (ns.map D.int)
  | [] => .nil
  | n :: ns => .cons (.int n) (Reps.ints ns)
theorem Reps.intsOf : ∀ {vs : List V} {ns : List Int}, Reps K B vs (ns.map D.int) → vs = ns.map V.int
  | _, [], .nil => rfl
  | _, n :: ns, .cons h t => by
    cases h
    rw [Reps.intsOf t] <;> rfl
theorem Reps.strsOf : ∀ {vs : List V} {ns : List Str}, Reps K B vs (ns.map D.str) → vs = ns.map V.str
  | _, [], .nil => rfl
  | _, n :: ns, .cons h t => by
    cases h
    rw [Reps.strsOf t] <;> rfl
end

/-- what may change -/
inductive MO where
  | lst (l : List D)
  | ins (C : Addr) (fs : List (Str × D))
  | dic (φ : Hp → HO → Prop)

inductive RepF (K : PySem.W.Frag) (B : Hp) : List (Str × V) → List (Str × D) → Prop
  | nil : RepF K B [] []
  | cons {f : Str} {v : V} {d : D} {vs : List (Str × V)} {ds : List (Str × D)} : Rep K B v d → RepF K B vs ds → RepF K B ((f, v) :: vs) ((f, d) :: ds)
inductive RepO (K : PySem.W.Frag) (B : Hp) : MO → HO → Prop
  | lst {xs : List V} {l : List D} : Reps K B xs l → RepO K B (.lst l) (.lst xs)
  | ins {C dx : Addr} {vs : List (Str × V)} {fs : List (Str × D)} : RepF K B vs fs → RepO K B (.ins C fs) (.ins C dx vs)
  | dic {φ : Hp → HO → Prop} {o : HO} : φ B o → (∀ B', Same B B' → φ B' o) → (∀ xs, o ≠ .tup xs) → RepO K B (.dic φ) o
abbrev Mem := List (Addr × MO)
abbrev Rho := List (Option D)

section
variable {K : PySem.W.Frag} {B B' : Hp}
theorem RepF.mono (s : Same B B') : ∀ {vs : List (Str × V)} {ds : List (Str × D)}, RepF K B vs ds → RepF K B' vs ds
  | _, _, .nil => .nil
  | _, _, .cons h t => .cons (h.mono s) (RepF.mono s t)
theorem RepF.length : ∀ {vs : List (Str × V)} {ds : List (Str × D)}, RepF K B vs ds → vs.length = ds.length
  | _, _, .nil => rfl
  | _, _, .cons _ t => by rw [List.length_cons, List.length_cons, RepF.length t]
theorem RepF.look {f : Str} {d : D} : ∀ {vs : List (Str × V)} {ds : List (Str × D)}, RepF K B vs ds → ds.lookup f = some d → ∃ v, vs.lookup f = some v ∧ Rep K B v d
  | _, _, .nil, h => by simp at h
  | _, _, .cons (f := g) h t, e => by
    by_cases q : f == g
    · simp only [List.lookup, q] at e ⊢
      cases e
      exact ⟨_, rfl, h⟩
    · simp only [List.lookup, q] at e ⊢
      exact RepF.look t e
theorem RepF.look0 {f : Str} : ∀ {vs : List (Str × V)} {ds : List (Str × D)}, RepF K B vs ds → ds.lookup f = none → vs.lookup f = none
  | _, _, .nil, h => rfl
  | _, _, .cons (f := g) h t, e => by
    by_cases q : f == g
    · simp only [List.lookup, q] at e
      cases e
    · simp only [List.lookup, q] at e ⊢
      exact RepF.look0 t e
/-- a field stored, over data -/
def putD (f : Str) (v : D) : List (Str × D) → List (Str × D)
  | [] => [(f, v)]
  | (g, u) :: r => if g = f then (g, v) :: r else (g, u) :: putD f v r
theorem RepF.put {f : Str} {v : V} {d : D} (h : Rep K B v d) : ∀ {vs : List (Str × V)} {ds : List (Str × D)}, RepF K B vs ds → RepF K B (putF f v vs) (putD f d ds)
  | _, _, .nil => .cons h .nil
  | _, _, .cons (f := g) q t => by
    unfold putF putD
    by_cases e : g = f
    · rw [if_pos e, if_pos e]
      exact .cons h t
    · rw [if_neg e, if_neg e]
      exact .cons q (RepF.put h t)
theorem RepO.mono (s : Same B B') {mo : MO} {o : HO} : RepO K B mo o → RepO K B' mo o
  | .lst r => .lst (r.mono s)
  | .ins r => .ins (r.mono s)
  | .dic h k n => .dic (k _ s) (fun B2 s2 => k B2 (s.trans s2)) n
end

structure Holds (K : PySem.W.Frag) (B : Hp) (M : Mem) (H : Hp) : Prop where
  fr : Same B H
  mem : ∀ c ∈ M, ∃ o, H c.1 = some o ∧ RepO K B c.2 o
  out : ∀ c ∈ M, B c.1 = none
  nd : (M.map (·.1)).Nodup

section
variable {K : PySem.W.Frag} {B H : Hp} {M : Mem}
theorem Same.upd {p : Addr} {o : HO} (h : B p = none) : Same B (L2.upd B p o) := fun a u e => by
  rw [upd_ne (ne_of_none e h)]
  exact e
theorem Holds.free (x : Holds K B M H) {p : Addr} (h : H p = none) : B p = none := x.fr.free h
theorem Holds.ne (x : Holds K B M H) {p : Addr} (h : H p = none) : ∀ c ∈ M, c.1 ≠ p := fun c hc e => by
  obtain ⟨o, h1, _⟩ := x.mem c hc
  rw [e, h] at h1
  cases h1
/-- a new object that stays as it is -/
theorem Holds.new (x : Holds K B M H) {p : Addr} {o : HO} (h : H p = none) : Holds K (L2.upd B p o) M (L2.upd H p o) := by
  have hb := x.free h
  refine ⟨fun a u e => ?_, fun c hc => ?_, fun c hc => ?_, x.nd⟩
  · by_cases ha : a = p
    · subst ha; rw [upd_same] at e ⊢; exact e
    · rw [upd_ne ha] at e ⊢; exact x.fr a u e
  · obtain ⟨o', h1, h2⟩ := x.mem c hc
    exact ⟨o', by rw [upd_ne (x.ne h c hc)]; exact h1, h2.mono (Same.upd hb)⟩
  · rw [upd_ne (x.ne h c hc)]; exact x.out c hc
/-- a new object that may change -/
theorem Holds.alloc (x : Holds K B M H) {p : Addr} {o : HO} {mo : MO} (h : H p = none) (r : RepO K B mo o) : Holds K B ((p, mo) :: M) (L2.upd H p o) := by
  have hb := x.free h
  refine ⟨fun a u e => ?_, fun c hc => ?_, fun c hc => ?_, ?_⟩
  · rw [upd_ne (ne_of_none (x.fr a u e) h)]; exact x.fr a u e
  · rcases List.mem_cons.mp hc with rfl | hc
    · exact ⟨o, upd_same, r⟩
    · obtain ⟨o', h1, h2⟩ := x.mem c hc
      exact ⟨o', by rw [upd_ne (x.ne h c hc)]; exact h1, h2⟩
  · rcases List.mem_cons.mp hc with rfl | hc
    · exact hb
    · exact x.out c hc
  · rw [List.map_cons, List.nodup_cons]
    refine ⟨fun q => ?_, x.nd⟩
    obtain ⟨c, hc, e⟩ := List.mem_map.mp q
    exact x.ne h c hc e
/-- garbage: a new object that nobody knows -/
theorem Holds.junk (x : Holds K B M H) {p : Addr} {o : HO} (h : H p = none) : Holds K B M (L2.upd H p o) :=
  ⟨fun a u e => by rw [upd_ne (ne_of_none (x.fr a u e) h)]; exact x.fr a u e, fun c hc => by
    obtain ⟨o', h1, h2⟩ := x.mem c hc
    exact ⟨o', by rw [upd_ne (x.ne h c hc)]; exact h1, h2⟩, x.out, x.nd⟩
theorem Holds.at (x : Holds K B M H) {k : Nat} {p : Addr} {mo : MO} (h : M[k]? = some (p, mo)) : ∃ o, H p = some o ∧ RepO K B mo o ∧ B p = none :=
  let ⟨o, h1, h2⟩ := x.mem (p, mo) (List.mem_of_getElem? h)
  ⟨o, h1, h2, x.out (p, mo) (List.mem_of_getElem? h)⟩
theorem nodup_at {α : Type} : ∀ {l : List α} {i j : Nat} {x : α}, l.Nodup → l[i]? = some x → l[j]? = some x → i = j
  | [], i, _, _, _, h, _ => by simp at h
  | a :: l, 0, 0, _, _, _, _ => rfl
  | a :: l, 0, j + 1, x, nd, h, h' => by
    have h1 : a = x := by simpa using h
    have h2 : l[j]? = some x := by simpa using h'
    exact absurd (List.mem_of_getElem? h2) (h1 ▸ (List.nodup_cons.mp nd).1)
  | a :: l, i + 1, 0, x, nd, h, h' => by
    have h1 : a = x := by simpa using h'
    have h2 : l[i]? = some x := by simpa using h
    exact absurd (List.mem_of_getElem? h2) (h1 ▸ (List.nodup_cons.mp nd).1)
  | a :: l, i + 1, j + 1, x, nd, h, h' => by
    exact congrArg (· + 1) (nodup_at (l := l) (x := x) (List.nodup_cons.mp nd).2 (by simpa using h) (by simpa using h'))
theorem nd_at {M : Mem} (nd : (M.map (·.1)).Nodup) {i j : Nat} {p : Addr} {a b : MO} (h : M[i]? = some (p, a)) (h' : M[j]? = some (p, b)) : i = j := by
  have h1 : (M.map (·.1))[i]? = some p := by rw [List.getElem?_map, h] <;> rfl
  have h2 : (M.map (·.1))[j]? = some p := by rw [List.getElem?_map, h'] <;> rfl
  exact nodup_at nd h1 h2
/-- an object that may change is changed -/
theorem Holds.put (x : Holds K B M H) {k : Nat} {p : Addr} {mo mo' : MO} {o : HO} (h : M[k]? = some (p, mo)) (r : RepO K B mo' o) : Holds K B (M.set k (p, mo')) (L2.upd H p o) := by
  obtain ⟨o0, h1, _, hb⟩ := x.at h
  have hk : k < M.length := (List.getElem?_eq_some_iff.mp h).1
  have nd' : ((M.set k (p, mo')).map (·.1)) = M.map (·.1) := by
    rw [List.map_set]
    have z : (M.map (·.1))[k]? = some p := by rw [List.getElem?_map, h] <;> rfl
    refine List.ext_getElem? fun i => ?_
    by_cases e : k = i
    · subst e
      rw [List.getElem?_set_self (by rw [List.length_map]; exact hk), z]
    · rw [List.getElem?_set_ne e]
  refine ⟨fun a u e => ?_, fun c hc => ?_, fun c hc => ?_, by rw [nd']; exact x.nd⟩
  · rw [upd_ne (ne_of_none e hb)]; exact x.fr a u e
  · obtain ⟨i, hi⟩ := List.mem_iff_getElem?.mp hc
    by_cases e : k = i
    · subst e
      rw [List.getElem?_set_self hk] at hi
      cases hi
      exact ⟨o, upd_same, r⟩
    · rw [List.getElem?_set_ne e] at hi
      obtain ⟨o', h2, h3⟩ := x.mem c (List.mem_of_getElem? hi)
      have ne : c.1 ≠ p := fun q => e (nd_at (a := mo) (b := c.2) x.nd h (by rw [hi, ← q]))
      exact ⟨o', by rw [upd_ne ne]; exact h2, h3⟩
  · obtain ⟨i, hi⟩ := List.mem_iff_getElem?.mp hc
    by_cases e : k = i
    · subst e
      rw [List.getElem?_set_self hk] at hi
      cases hi
      exact hb
    · rw [List.getElem?_set_ne e] at hi
      exact x.out c (List.mem_of_getElem? hi)
theorem Holds.sub (x : Holds K B M H) {M' : Mem} (h : M'.Sublist M) : Holds K B M' H :=
  ⟨x.fr, fun c hc => x.mem c (h.subset hc), fun c hc => x.out c (h.subset hc), x.nd.sublist (h.map _)⟩
theorem Holds.perm (x : Holds K B M H) {M' : Mem} (h : M'.Perm M) : Holds K B M' H :=
  ⟨x.fr, fun c hc => x.mem c (h.subset hc), fun c hc => x.out c (h.subset hc), (h.map _).nodup_iff.mpr x.nd⟩
/-- a list that may change is from now on left as it is -/
theorem Holds.freeze (x : Holds K B M H) {k : Nat} {p : Addr} {l : List D} (h : M[k]? = some (p, .lst l)) : ∃ xs, H p = some (.lst xs) ∧ B p = none ∧ Rep K (L2.upd B p (.lst xs)) (.ref p) (.lst l) ∧ Holds K (L2.upd B p (.lst xs)) (M.eraseIdx k) H := by
  obtain ⟨o, h1, h2, hb⟩ := x.at h
  cases h2 with
  | @lst xs _ r =>
    have s : Same B (L2.upd B p (.lst xs)) := Same.upd hb
    refine ⟨xs, h1, hb, .lst upd_same (r.mono s), fun a u e => ?_, fun c hc => ?_, fun c hc => ?_, x.nd.sublist ((List.eraseIdx_sublist _ _).map _)⟩
    · by_cases ha : a = p
      · subst ha; rw [upd_same] at e; cases e; exact h1
      · rw [upd_ne ha] at e; exact x.fr a u e
    · obtain ⟨o', h3, h4⟩ := x.mem c ((List.eraseIdx_sublist _ _).subset hc)
      exact ⟨o', h3, h4.mono s⟩
    · have ne : c.1 ≠ p := fun q => by
        obtain ⟨i, hi, he⟩ := List.mem_eraseIdx_iff_getElem?.mp hc
        exact hi (nd_at (a := c.2) (b := .lst l) x.nd (by rw [he, ← q]) h)
      rw [upd_ne ne]
      exact x.out c ((List.eraseIdx_sublist _ _).subset hc)
end

/-- the slots hold the data -/
structure EnvRep (K : PySem.W.Frag) (B : Hp) (σ : L2.St) (ρ : Rho) : Prop where
  len : σ.length = ρ.length
  at' : ∀ (i : Nat) (d : D), ρ[i]? = some (some d) → ∃ v, σ[i]? = some (some v) ∧ Rep K B v d
section
variable {K : PySem.W.Frag} {B B' H : Hp} {M : Mem} {σ : L2.St} {ρ : Rho}
theorem EnvRep.mono (e : EnvRep K B σ ρ) (s : Same B B') : EnvRep K B' σ ρ := ⟨e.len, fun i d h => let ⟨v, h1, h2⟩ := e.at' i d h; ⟨v, h1, h2.mono s⟩⟩
theorem EnvRep.set (e : EnvRep K B σ ρ) {i : Nat} {v : V} {d : D} (r : Rep K B v d) : EnvRep K B (σ.set i (some v)) (ρ.set i (some d)) := by
  refine ⟨by rw [List.length_set, List.length_set, e.len], fun j c h => ?_⟩
  by_cases q : i = j
  · subst q
    have hi : i < ρ.length := by
      have := (List.getElem?_eq_some_iff.mp h).1
      rwa [List.length_set] at this
    rw [List.getElem?_set_self hi] at h
    cases h
    exact ⟨v, List.getElem?_set_self (by rw [e.len]; exact hi), r⟩
  · rw [List.getElem?_set_ne q] at h ⊢
    exact e.at' j c h
theorem EnvRep.drop (e : EnvRep K B σ ρ) {ρ' : Rho} (hl : ρ'.length = ρ.length) (h : ∀ (i : Nat) (d : D), ρ'[i]? = some (some d) → ρ[i]? = some (some d)) : EnvRep K B σ ρ' :=
  ⟨by rw [e.len, hl], fun i d q => e.at' i d (h i d q)⟩
theorem EnvRep.wipe (e : EnvRep K B σ ρ) {i : Nat} (h : ∀ d, ρ[i]? ≠ some (some d)) : EnvRep K B (L2.wipe σ [i]) ρ := by
  refine ⟨by rw [wipe_length, e.len], fun j c q => ?_⟩
  have ne : i ≠ j := fun z => by subst z; exact h c q
  show ∃ v, (σ.set i none)[j]? = _ ∧ _
  rw [List.getElem?_set_ne ne]
  exact e.at' j c q
theorem EnvRep.wipes (e : EnvRep K B σ ρ) : ∀ {vs : List Nat}, (∀ i ∈ vs, ∀ d, ρ[i]? ≠ some (some d)) → EnvRep K B (L2.wipe σ vs) ρ
  | [], _ => e
  | i :: vs, h => by
    have ih := e.wipes (vs := vs) fun j hj => h j (List.mem_cons_of_mem _ hj)
    refine ⟨by rw [wipe_length, e.len], fun j c q => ?_⟩
    have ne : i ≠ j := fun z => by subst z; exact h i List.mem_cons_self c q
    show ∃ v, ((L2.wipe σ vs).set i none)[j]? = _ ∧ _
    rw [List.getElem?_set_ne ne]
    exact ih.at' j c q
end

/-! ### the widest readings -/
def WE (X : Cx) (e : Expr) : TE := fun σ H Q => ∀ (pins : List (Addr × Obj)) (s : Shared), Inv X pins σ H s → wpAny (model X.prog X.w) X.A (eval e X.env) (EP X pins σ Q) X.xe s
theorem WE.pe {X : Cx} {e : Expr} : PE X e (WE X e) := ⟨fun pins s _ _ _ I h => h pins s I⟩
theorem WE.of {X : Cx} {e : Expr} {t : TE} {σ : L2.St} {H : Hp} {Q : VK} (p : PE X e t) (h : t σ H Q) : WE X e σ H Q := fun pins s I => p.run pins s σ H Q I h
def WT (X : Cx) (e : Expr) : TT := fun σ H Q => ∀ (pins : List (Addr × Obj)) (s : Shared), Inv X pins σ H s → wpAny (model X.prog X.w) X.A (isTrue e X.env (eval e X.env)) (TP X pins σ Q) X.xe s
theorem WT.pt {X : Cx} {e : Expr} : PT X e (WT X e) := ⟨fun pins s _ _ _ I h => h pins s I⟩
theorem WT.of {X : Cx} {e : Expr} {t : TT} {σ : L2.St} {H : Hp} {Q : Bool → Hp → Prop} (p : PT X e t) (h : t σ H Q) : WT X e σ H Q := fun pins s I => p.run pins s σ H Q I h
def WW (X : Cx) (e : Expr) : TT := fun σ H Q => ∀ (whole : Sem Value) (pins : List (Addr × Obj)) (s : Shared), Inv X pins σ H s → wpAny (model X.prog X.w) X.A (isTrue e X.env whole) (TP X pins σ Q) X.xe s
theorem WW.pw {X : Cx} {e : Expr} : PW X e (WW X e) := ⟨fun whole pins s _ _ _ I h => h whole pins s I⟩
theorem WW.of {X : Cx} {e : Expr} {t : TT} {σ : L2.St} {H : Hp} {Q : Bool → Hp → Prop} (p : PW X e t) (h : t σ H Q) : WW X e σ H Q := fun whole pins s I => p.run whole pins s σ H Q I h
def WA (X : Cx) (es : List Expr) : TA := fun σ H Q => ∀ (pos : Pos) (pins : List (Addr × Obj)) (s : Shared), Inv X pins σ H s → wpAny (model X.prog X.w) X.A (spliced (backTo pos (starEach es X.env))) (AP X pins σ Q) X.xe s
theorem WA.pa {X : Cx} {es : List Expr} : PA X es (WA X es) := ⟨fun pos pins s _ _ _ I h => h pos pins s I⟩
theorem WA.of {X : Cx} {es : List Expr} {t : TA} {σ : L2.St} {H : Hp} {Q : List V → Hp → Prop} (p : PA X es t) (h : t σ H Q) : WA X es σ H Q := fun pos pins s I => p.run pos pins s σ H Q I h
def WS (X : Cx) (st : Stmt) : TS := fun D σ H => ∀ (pins : List (Addr × Obj)) (s : Shared), Inv X pins σ H s → wpAny (model X.prog X.w) X.A (exec st X.env) (SP X pins D) X.xe s
theorem WS.ps {X : Cx} {st : Stmt} : PS X st (WS X st) := ⟨fun pins s _ _ _ I h => h pins s I⟩
theorem WS.of {X : Cx} {st : Stmt} {t : TS} {D : Ends} {σ : L2.St} {H : Hp} (p : PS X st t) (h : t D σ H) : WS X st D σ H := fun pins s I => p.run pins s σ H D I h
def WSs (X : Cx) (st : List Stmt) : TS := fun D σ H => ∀ (pins : List (Addr × Obj)) (s : Shared), Inv X pins σ H s → wpAny (model X.prog X.w) X.A (execs st X.env) (SP X pins D) X.xe s
theorem WSs.ps {X : Cx} {st : List Stmt} : PSs X st (WSs X st) := ⟨fun pins s _ _ _ I h => h pins s I⟩
theorem WSs.of {X : Cx} {st : List Stmt} {t : TS} {D : Ends} {σ : L2.St} {H : Hp} (p : PSs X st t) (h : t D σ H) : WSs X st D σ H := fun pins s I => p.run pins s σ H D I h

/-! ### the judgements -/
/-- e, from the slots ρ and the memory M, gives some data, leaving a memory, of which P holds -/
structure EM (X : Cx) (e : Expr) (ρ : Rho) (M : Mem) (P : D → Mem → Prop) : Prop where
  run : ∀ (F : Mem) (σ : L2.St) (B H : Hp), EnvRep X.K B σ ρ → Holds X.K B (M ++ F) H → ∀ Q : VK, (∀ d M' v B' H', P d M' → Same B B' → Holds X.K B' (M' ++ F) H' → Rep X.K B' v d → Q v H') → WE X e σ H Q
instance {X : Cx} {e : Expr} {ρ : Rho} {M : Mem} {P : D → Mem → Prop} : CoeFun (EM X e ρ M P) (fun _ => ∀ (F : Mem) (σ : L2.St) (B H : Hp), EnvRep X.K B σ ρ → Holds X.K B (M ++ F) H → ∀ Q : VK, (∀ d M' v B' H', P d M' → Same B B' → Holds X.K B' (M' ++ F) H' → Rep X.K B' v d → Q v H') → WE X e σ H Q) := ⟨EM.run⟩
structure TM (X : Cx) (e : Expr) (ρ : Rho) (M : Mem) (P : Bool → Mem → Prop) : Prop where
  run : ∀ (F : Mem) (σ : L2.St) (B H : Hp), EnvRep X.K B σ ρ → Holds X.K B (M ++ F) H → ∀ Q : Bool → Hp → Prop, (∀ b M' B' H', P b M' → Same B B' → Holds X.K B' (M' ++ F) H' → Q b H') → WT X e σ H Q
instance {X : Cx} {e : Expr} {ρ : Rho} {M : Mem} {P : Bool → Mem → Prop} : CoeFun (TM X e ρ M P) (fun _ => ∀ (F : Mem) (σ : L2.St) (B H : Hp), EnvRep X.K B σ ρ → Holds X.K B (M ++ F) H → ∀ Q : Bool → Hp → Prop, (∀ b M' B' H', P b M' → Same B B' → Holds X.K B' (M' ++ F) H' → Q b H') → WT X e σ H Q) := ⟨TM.run⟩
structure WM (X : Cx) (e : Expr) (ρ : Rho) (M : Mem) (P : Bool → Mem → Prop) : Prop where
  run : ∀ (F : Mem) (σ : L2.St) (B H : Hp), EnvRep X.K B σ ρ → Holds X.K B (M ++ F) H → ∀ Q : Bool → Hp → Prop, (∀ b M' B' H', P b M' → Same B B' → Holds X.K B' (M' ++ F) H' → Q b H') → WW X e σ H Q
instance {X : Cx} {e : Expr} {ρ : Rho} {M : Mem} {P : Bool → Mem → Prop} : CoeFun (WM X e ρ M P) (fun _ => ∀ (F : Mem) (σ : L2.St) (B H : Hp), EnvRep X.K B σ ρ → Holds X.K B (M ++ F) H → ∀ Q : Bool → Hp → Prop, (∀ b M' B' H', P b M' → Same B B' → Holds X.K B' (M' ++ F) H' → Q b H') → WW X e σ H Q) := ⟨WM.run⟩
structure AM (X : Cx) (es : List Expr) (ρ : Rho) (M : Mem) (P : List D → Mem → Prop) : Prop where
  run : ∀ (F : Mem) (σ : L2.St) (B H : Hp), EnvRep X.K B σ ρ → Holds X.K B (M ++ F) H → ∀ Q : List V → Hp → Prop, (∀ ds M' vs B' H', P ds M' → Same B B' → Holds X.K B' (M' ++ F) H' → Reps X.K B' vs ds → Q vs H') → WA X es σ H Q
instance {X : Cx} {es : List Expr} {ρ : Rho} {M : Mem} {P : List D → Mem → Prop} : CoeFun (AM X es ρ M P) (fun _ => ∀ (F : Mem) (σ : L2.St) (B H : Hp), EnvRep X.K B σ ρ → Holds X.K B (M ++ F) H → ∀ Q : List V → Hp → Prop, (∀ ds M' vs B' H', P ds M' → Same B B' → Holds X.K B' (M' ++ F) H' → Reps X.K B' vs ds → Q vs H') → WA X es σ H Q) := ⟨AM.run⟩
/-- what is wanted behind a statement -/
structure Out where
  nx : Rho → Mem → Prop
  rt : D → Mem → Prop
  bk : Rho → Mem → Prop := fun _ _ => False
  ct : Rho → Mem → Prop := fun _ _ => False
/-- D grants what P asks, from the base B on, over the frame F -/
structure Grants (K : PySem.W.Frag) (B : Hp) (F : Mem) (P : Out) (D : Ends) : Prop where
  nx : ∀ ρ M σ B' H, P.nx ρ M → Same B B' → EnvRep K B' σ ρ → Holds K B' (M ++ F) H → D.nx σ H
  rt : ∀ d M v B' H, P.rt d M → Same B B' → Rep K B' v d → Holds K B' (M ++ F) H → D.rt v H
  bk : ∀ ρ M σ B' H, P.bk ρ M → Same B B' → EnvRep K B' σ ρ → Holds K B' (M ++ F) H → D.bk σ H
  ct : ∀ ρ M σ B' H, P.ct ρ M → Same B B' → EnvRep K B' σ ρ → Holds K B' (M ++ F) H → D.ct σ H
theorem Grants.mono {K : PySem.W.Frag} {B B1 : Hp} {F : Mem} {P : Out} {D : Ends} (g : Grants K B F P D) (s : Same B B1) : Grants K B1 F P D :=
  ⟨fun ρ M σ B' H p s1 => g.nx ρ M σ B' H p (s.trans s1), fun d M v B' H p s1 => g.rt d M v B' H p (s.trans s1), fun ρ M σ B' H p s1 => g.bk ρ M σ B' H p (s.trans s1), fun ρ M σ B' H p s1 => g.ct ρ M σ B' H p (s.trans s1)⟩
structure SM (X : Cx) (st : List Stmt) (ρ : Rho) (M : Mem) (P : Out) : Prop where
  run : ∀ (F : Mem) (σ : L2.St) (B H : Hp), EnvRep X.K B σ ρ → Holds X.K B (M ++ F) H → ∀ Dn : Ends, Grants X.K B F P Dn → WSs X st Dn σ H
instance {X : Cx} {st : List Stmt} {ρ : Rho} {M : Mem} {P : Out} : CoeFun (SM X st ρ M P) (fun _ => ∀ (F : Mem) (σ : L2.St) (B H : Hp), EnvRep X.K B σ ρ → Holds X.K B (M ++ F) H → ∀ Dn : Ends, Grants X.K B F P Dn → WSs X st Dn σ H) := ⟨SM.run⟩
end Dl
namespace Dl
open PySem PySem.Spec PyProof.Rows L2

theorem it1 {A B : Prop} (h : if true = true then A else B) : A := h
theorem it0 {A B : Prop} (h : if false = true then A else B) : B := h
/-! ### names -/
def visB (sc : Scope) (x : Str) : Bool := match sc.names.lookup x with | some .local => true | some .cell => true | some .free => true | _ => false
def glB (sc : Scope) (x : Str) : Bool := match sc.names.lookup x with | some .globalImplicit => true | _ => false
def locB (sc : Scope) (x : Str) : Bool := match sc.names.lookup x with | some .local => true | some .cell => true | _ => false
def lclB (sc : Scope) (x : Str) : Bool := match sc.names.lookup x with | some .local => true | _ => false
def cfB (sc : Scope) (x : Str) : Bool := match sc.names.lookup x with | some .cell => true | some .free => true | _ => false
/-- a name's slot holds d -/
inductive At : List Str → Rho → Str → D → Prop
  | here {N : List Str} {ρ : Rho} {x : Str} {d : D} : At (x :: N) (some d :: ρ) x d
  | there {N : List Str} {ρ : Rho} {x y : Str} {s : Option D} {d : D} : At N ρ x d → At (y :: N) (s :: ρ) x d
/-- d stored at a name's slot -/
inductive Put : List Str → Rho → Str → Option D → Rho → Prop
  | here {N : List Str} {ρ : Rho} {x : Str} {s o : Option D} : Put (x :: N) (s :: ρ) x o (o :: ρ)
  | there {N : List Str} {ρ ρ' : Rho} {x y : Str} {s o : Option D} : Put N ρ x o ρ' → Put (y :: N) (s :: ρ) x o (s :: ρ')
theorem At.ix {N : List Str} {ρ : Rho} {x : Str} {d : D} (h : At N ρ x d) : ∃ i : Nat, N[i]? = some x ∧ ρ[i]? = some (some d) := by
  induction h with
  | here => exact ⟨0, rfl, rfl⟩
  | there _ ih =>
    obtain ⟨i, a, b⟩ := ih
    exact ⟨i + 1, by simpa using a, by simpa using b⟩
theorem Put.ix {N : List Str} {ρ ρ' : Rho} {x : Str} {o : Option D} (h : Put N ρ x o ρ') : ∃ i : Nat, N[i]? = some x ∧ ρ' = ρ.set i o := by
  induction h with
  | here => exact ⟨0, rfl, rfl⟩
  | there _ ih =>
    obtain ⟨i, a, b⟩ := ih
    exact ⟨i + 1, by simpa using a, by rw [b] <;> rfl⟩
/-- what a body is told of where it stands: its names by slot, its scope's kinds -/
structure Ctx (X : Cx) (N : List Str) (sc : Scope) : Prop where
  nm : X.N = N
  nd : N.Nodup
  calm : X.calm = true
  kind : X.env.scope.kind = .function
  po : PassesOwn (model X.prog X.w) X.A X.env X.xe
  vis : ∀ x, visB sc x = true → Vis X.env.scope x
  gl : ∀ x, glB sc x = true → Gl X x
  sto : ∀ x, locB sc x = true → L2.Loc X.env.scope x ∧ (X.fn x = true ∨ X.env.scope.names.lookup x = some .local)
  cf : ∀ x, cfB sc x = true → X.env.scope.names.lookup x = some .cell ∨ X.env.scope.names.lookup x = some .free
  lcl : ∀ x, lclB sc x = true → X.env.scope.names.lookup x = some .local
section
variable {X : Cx} {N : List Str} {sc : Scope}
theorem vis_of {sc : Scope} {x : Str} (h : visB sc x = true) : Vis sc x := by
  unfold visB at h
  unfold Vis
  split at h <;> simp_all
theorem loc_of {sc : Scope} {x : Str} (h : locB sc x = true) : L2.Loc sc x := by
  unfold locB at h
  unfold L2.Loc
  split at h <;> simp_all
theorem gl_of {sc : Scope} {x : Str} (h : glB sc x = true) : sc.names.lookup x = some .globalImplicit := by
  unfold glB at h
  split at h <;> simp_all
theorem cf_of {sc : Scope} {x : Str} (h : cfB sc x = true) : sc.names.lookup x = some .cell ∨ sc.names.lookup x = some .free := by
  unfold cfB at h
  split at h <;> simp_all
theorem lcl_of {sc : Scope} {x : Str} (h : lclB sc x = true) : sc.names.lookup x = some .local := by
  unfold lclB at h
  split at h <;> simp_all
/-- a def's body -/
theorem Ctx.fn (nm : X.N = N) (nd : N.Nodup) (calm : X.calm = true) (hs : X.env.scope = sc) (kind : sc.kind = .function) (hf : ∀ x, X.fn x = true) (po : PassesOwn (model X.prog X.w) X.A X.env X.xe) : Ctx X N sc :=
  ⟨nm, nd, calm, by rw [hs]; exact kind, po, fun x h => by rw [hs]; exact vis_of h, fun x h => by unfold Gl PySem.Env.kindOf; rw [hs]; exact gl_of h, fun x h => ⟨by rw [hs]; exact loc_of h, .inl (hf x)⟩, fun x h => by rw [hs]; exact cf_of h, fun x h => by rw [hs]; exact lcl_of h⟩
theorem look_relabel {env : PySem.Env} : ∀ {names : List (Str × NameKind)} {x : Str} {k : NameKind}, names.lookup x = some k →
    (names.map fun (n, k) => if (k == NameKind.free && env.scope.kind == .function && env.kindOf n == some .cell) then (n, NameKind.cell) else (n, k)).lookup x = some k ∨
    (k = .free ∧ (names.map fun (n, k) => if (k == NameKind.free && env.scope.kind == .function && env.kindOf n == some .cell) then (n, NameKind.cell) else (n, k)).lookup x = some .cell)
  | [], x, k, h => by simp at h
  | (n, j) :: r, x, k, h => by
    have ih := @look_relabel env r x k
    show List.lookup x ((if (j == NameKind.free && env.scope.kind == .function && env.kindOf n == some .cell) = true then (n, NameKind.cell) else (n, j)) :: _) = _ ∨ (_ ∧ List.lookup x ((if (j == NameKind.free && env.scope.kind == .function && env.kindOf n == some .cell) = true then (n, NameKind.cell) else (n, j)) :: _) = _)
    cases hx : x == n with
    | true =>
      simp only [List.lookup_cons, hx] at h
      cases h
      by_cases c : (j == NameKind.free && env.scope.kind == .function && env.kindOf n == some .cell) = true
      · rw [if_pos c]
        refine .inr ⟨?_, by simp only [List.lookup_cons, hx]⟩
        simp only [Bool.and_eq_true] at c
        cases j <;> first | rfl | (exact absurd c.1.1 (by decide))
      · rw [if_neg c]
        exact .inl (by simp only [List.lookup_cons, hx])
    | false =>
      simp only [List.lookup_cons, hx] at h
      by_cases c : (j == NameKind.free && env.scope.kind == .function && env.kindOf n == some .cell) = true
      · rw [if_pos c]
        simp only [List.lookup_cons, hx]
        exact ih h
      · rw [if_neg c]
        simp only [List.lookup_cons, hx]
        exact ih h
/-- a comprehension's block -/
theorem Ctx.blk (c : Ctx X N sc) {s : Shared} {H : Hp} {scope : Scope} {C : Addr} {cl : List (Str × Addr)} {fp : List Addr} (hk : scope.kind = .function) : Ctx (X.blk s H scope (compEnvC scope cl C X.env) fp) N scope := by
  refine ⟨c.nm, c.nd, c.calm, hk, PassesOwn.never, fun x h => ?_, fun x h => ?_, fun x h => ?_, fun x h => ?_, fun x h => ?_⟩
  · rcases vis_of h with q | q | q
    · rcases look_relabel (env := X.env) q with r | ⟨r, _⟩
      · exact .inl r
      · cases r
    · rcases look_relabel (env := X.env) q with r | ⟨r, _⟩
      · exact .inr (.inl r)
      · cases r
    · rcases look_relabel (env := X.env) q with r | ⟨_, r⟩
      · exact .inr (.inr r)
      · exact .inr (.inl r)
  · rcases look_relabel (env := X.env) (gl_of h) with r | ⟨r, _⟩
    · exact r
    · cases r
  · rcases loc_of h with q | q
    · rcases look_relabel (env := X.env) q with r | ⟨r, _⟩
      · exact ⟨.inl r, .inr r⟩
      · cases r
    · rcases look_relabel (env := X.env) q with r | ⟨r, _⟩
      · refine ⟨.inr r, .inl ?_⟩
        show (scope.names.lookup x == some .cell) = true
        rw [q] <;> rfl
      · cases r
  · rcases cf_of h with q | q
    · rcases look_relabel (env := X.env) q with r | ⟨r, _⟩
      · exact .inl r
      · cases r
    · rcases look_relabel (env := X.env) q with r | ⟨_, r⟩
      · exact .inr r
      · exact .inl r
  · rcases look_relabel (env := X.env) (lcl_of h) with r | ⟨r, _⟩
    · exact r
    · cases r
end

section
variable {X : Cx} {N : List Str} {sc : Scope} {ρ ρ' : Rho} {M : Mem} {P P' : D → Mem → Prop} {e a b c : Expr} {pos : Pos}
/-! ### expressions -/
theorem EM.to (h : EM X e ρ M P) (k : ∀ d M', P d M' → P' d M') : EM X e ρ M P' := ⟨fun F σ B H r x Q q => h F σ B H r x Q fun d M' v B' H' p => q d M' v B' H' (k d M' p)⟩
theorem TM.to {P P' : Bool → Mem → Prop} (h : TM X e ρ M P) (k : ∀ d M', P d M' → P' d M') : TM X e ρ M P' := ⟨fun F σ B H r x Q q => h F σ B H r x Q fun d M' B' H' p => q d M' B' H' (k d M' p)⟩
/-- more memory, which stays as it is -/
theorem EM.frame {M2 : Mem} (h : EM X e ρ M (fun d M' => P d (M' ++ M2))) : EM X e ρ (M ++ M2) P := ⟨fun F σ B H r x Q q => by
  rw [List.append_assoc] at x
  exact h (M2 ++ F) σ B H r x Q fun d M' v B' H' p s x' => q d (M' ++ M2) v B' H' p s (by rw [List.append_assoc]; exact x')⟩
theorem EM.swap {m1 m2 : Addr × MO} (h : EM X e ρ (m2 :: m1 :: M) P) : EM X e ρ (m1 :: m2 :: M) P := ⟨fun F σ B H r x Q q =>
  h F σ B H r (x.perm (List.Perm.swap _ _ _)) Q q⟩
theorem EM.var {x : Str} {d : D} (c : Ctx X N sc) (h : At N ρ x d) (p : P d M) (hv : visB sc x = true := by decide +kernel) (hd : (x == ("__debug__" : Str)) = false := by decide +kernel) (hcd : (x == ("__classdict__" : Str)) = false := by decide +kernel) : EM X (.Name x pos) ρ M P := ⟨fun F σ B H r hx Q q => by
  obtain ⟨i, h1, h2⟩ := h.ix
  obtain ⟨v, h3, h4⟩ := r.at' i d h2
  exact WE.of (pe_var (i := i) (by rw [c.nm]; exact h1) (c.vis x hv) hd hcd) ⟨v, h3, q d M v B H p (Same.refl B) hx h4⟩⟩
theorem EM.int {i : Int} {j : Nat} (p : P (.int i) M) : EM X (.Constant (.int i) j pos) ρ M P := ⟨fun F σ B H r hx Q q => WE.of pe_int (q _ M _ B H p (Same.refl B) hx (.int i))⟩
theorem EM.bl {i : Bool} {j : Nat} (p : P (.bl i) M) : EM X (.Constant (.bool i) j pos) ρ M P := ⟨fun F σ B H r hx Q q => WE.of pe_bl (q _ M _ B H p (Same.refl B) hx (.bl i))⟩
theorem EM.non {j : Nat} (p : P .non M) : EM X (.Constant .none j pos) ρ M P := ⟨fun F σ B H r hx Q q => WE.of pe_non (q _ M _ B H p (Same.refl B) hx .non)⟩
theorem EM.str {x : Str} {j : Nat} (p : P (.str x) M) : EM X (.Constant (.str x) j pos) ρ M P := ⟨fun F σ B H r hx Q q => WE.of pe_str (q _ M _ B H p (Same.refl B) hx (.str x))⟩
/-- a module's name: v its value, told as the data d wherever one stands -/
theorem EM.glob {x : Str} {v : V} {u : Value} {d : D} (c : Ctx X N sc) (hm : X.mg x = some u) (rv : RelV v u) (hr : ∀ B, Rep X.K B v d) (p : P d M) (hg : glB sc x = true := by decide +kernel) (hd : (x == ("__debug__" : Str)) = false := by decide +kernel) : EM X (.Name x pos) ρ M P := ⟨fun F σ B H r hx Q q =>
  WE.of (pe_glob (c.gl x hg) hm rv hd) (q d M v B H p (Same.refl B) hx (hr B))⟩
/-- an operation on two values, over data -/
abbrev DR := D → D → Mem → (D → Mem → Prop) → Prop
def DOp (K : PySem.W.Frag) (r : R2) (R : DR) : Prop := ∀ (F : Mem) (B : Hp) (M : Mem) (H : Hp) (x y : V) (d e : D) (P : D → Mem → Prop) (Q : VK), Holds K B (M ++ F) H → Rep K B x d → Rep K B y e → R d e M P →
  (∀ z M' v B' H', P z M' → Same B B' → Holds K B' (M' ++ F) H' → Rep K B' v z → Q v H') → r x y H Q
theorem two {r : R2} {R : DR} (hd : DOp X.K r R) (h : EM X a ρ M fun d M1 => EM X b ρ M1 fun e M2 => R d e M2 P)
    {F : Mem} {σ : L2.St} {B H : Hp} (hr : EnvRep X.K B σ ρ) (hx : Holds X.K B (M ++ F) H) {Q : VK} (q : ∀ d M' v B' H', P d M' → Same B B' → Holds X.K B' (M' ++ F) H' → Rep X.K B' v d → Q v H') : tOp r (WE X a) (WE X b) σ H Q := by
  show WE X a σ H fun x H1 => WE X b σ H1 fun y H2 => r x y H2 Q
  refine h F σ B H hr hx _ fun d M1 x B1 H1 h1 s1 x1 r1 => ?_
  refine h1 F σ B1 H1 (hr.mono s1) x1 _ fun e M2 y B2 H2 h2 s2 x2 r2 => ?_
  exact hd F B2 M2 H2 x y d e P Q x2 (r1.mono s2) r2 h2 fun z M3 v B' H' pz s3 x3 r3 => q z M3 v B' H' pz (s1.trans (s2.trans s3)) x3 r3
theorem EM.op {op : Operator} {r : R2} {R : DR} (ho : OpR X (binaryOp op) r) (hd : DOp X.K r R) (h : EM X a ρ M fun d M1 => EM X b ρ M1 fun e M2 => R d e M2 P) : EM X (.BinOp a op b pos) ρ M P := ⟨fun F σ B H hr hx Q q =>
  WE.of (pe_op ho WE.pe WE.pe) (two hd h hr hx q)⟩
theorem EM.cmp {op : CmpOp} {r : R2} {R : DR} (ho : OpR X (compareOp op) r) (hd : DOp X.K r R) (h : EM X a ρ M fun d M1 => EM X b ρ M1 fun e M2 => R d e M2 P) (hm : behindInMarks op b = false := by first | exact nomark _ | rfl) : EM X (.Compare a [op] [b] pos) ρ M P := ⟨fun F σ B H hr hx Q q =>
  WE.of (pe_cmpR ho WE.pe WE.pe hm) (two hd h hr hx q)⟩
theorem EM.ix {r : R2} {R : DR} (ho : IxR X r) (hd : DOp X.K r R) (h : EM X a ρ M fun d M1 => EM X b ρ M1 fun e M2 => R d e M2 P) (hs : PlainIx b := by exact fun _ _ => rfl) : EM X (.Subscript a b pos) ρ M P := ⟨fun F σ B H hr hx Q q =>
  WE.of (pe_ix ho WE.pe WE.pe hs) (two hd h hr hx q)⟩
theorem TM.cmp {op : CmpOp} {r : R2} {R : DR} {P : Bool → Mem → Prop} (ho : OpR X (compareOp op) r) (hd : DOp X.K r R) (h : EM X a ρ M fun d M1 => EM X b ρ M1 fun e M2 => R d e M2 fun z M3 => ∃ k, z = .bl k ∧ P k M3) (hm : behindInMarks op b = false := by first | exact nomark _ | rfl) : TM X (.Compare a [op] [b] pos) ρ M P := ⟨fun F σ B H hr hx Q q =>
  WT.of (pt_cmpR ho WE.pe WE.pe hm) (two (P := fun z M2 => ∃ k, z = .bl k ∧ P k M2) hd h hr hx fun d M' v B' H' ⟨k, e, p⟩ s x r => by
    subst e
    cases r
    exact ⟨k, rfl, q k M' B' H' p s x⟩)⟩
/-- a test that is a value True or False -/
theorem TM.val {P : Bool → Mem → Prop} (h : EM X e ρ M fun z M2 => ∃ k, z = .bl k ∧ P k M2) (he : ∀ whole, isTrue e X.env whole = (do let v ← whole; standAt e.pos; holding [v] (truthy v)) := by intro _; rfl) : TM X e ρ M P := ⟨fun F σ B H hr hx Q q =>
  WT.of (pt_val WE.pe he) (h F σ B H hr hx _ fun d M' v B' H' ⟨k, e, p⟩ s x r => by
    subst e
    cases r
    exact ⟨k, rfl, q k M' B' H' p s x⟩)⟩
theorem TM.w {P : Bool → Mem → Prop} (h : WM X e ρ M P) : TM X e ρ M P := ⟨fun F σ B H hr hx Q q => WT.of (WW.pw.pt) (h F σ B H hr hx Q q)⟩
theorem TM.not {P : Bool → Mem → Prop} (h : TM X a ρ M fun k M' => P (!k) M') : TM X (.UnaryOp .Not a pos) ρ M P := ⟨fun F σ B H hr hx Q q =>
  WT.of (pt_not WT.pt) (h F σ B H hr hx _ fun k M' B' H' p s x => q (!k) M' B' H' p s x)⟩
theorem WM.and1 {P : Bool → Mem → Prop} (h : TM X a ρ M P) : WM X (.BoolOp .And [a] pos) ρ M P := ⟨fun F σ B H hr hx Q q => WW.of (pw_and1 WT.pt) (h F σ B H hr hx Q q)⟩
theorem WM.or1 {P : Bool → Mem → Prop} (h : TM X a ρ M P) : WM X (.BoolOp .Or [a] pos) ρ M P := ⟨fun F σ B H hr hx Q q => WW.of (pw_or1 WT.pt) (h F σ B H hr hx Q q)⟩
theorem WM.and {r : List Expr} {P : Bool → Mem → Prop} (h : TM X a ρ M fun k M1 => if k = true then WM X (.BoolOp .And (b :: r) pos) ρ M1 P else P false M1) : WM X (.BoolOp .And (a :: b :: r) pos) ρ M P := ⟨fun F σ B H hr hx Q q =>
  WW.of (pw_and WT.pt WW.pw) (h F σ B H hr hx _ fun k M1 B1 H1 p s x => by
    cases k with
    | true => exact (it1 p) F σ B1 H1 (hr.mono s) x Q fun b' M' B' H' p' s' => q b' M' B' H' p' (s.trans s')
    | false => exact q false M1 B1 H1 p s x)⟩
theorem WM.or {r : List Expr} {P : Bool → Mem → Prop} (h : TM X a ρ M fun k M1 => if k = true then P true M1 else WM X (.BoolOp .Or (b :: r) pos) ρ M1 P) : WM X (.BoolOp .Or (a :: b :: r) pos) ρ M P := ⟨fun F σ B H hr hx Q q =>
  WW.of (pw_or WT.pt WW.pw) (h F σ B H hr hx _ fun k M1 B1 H1 p s x => by
    cases k with
    | true => exact q true M1 B1 H1 p s x
    | false => exact (it0 p) F σ B1 H1 (hr.mono s) x Q fun b' M' B' H' p' s' => q b' M' B' H' p' (s.trans s'))⟩
theorem EM.one {op : _} (h : EM X a ρ M P) : EM X (.BoolOp op [a] pos) ρ M P := ⟨fun F σ B H hr hx Q q => WE.of (pe_one WE.pe) (h F σ B H hr hx Q q)⟩
theorem EM.and {r : List Expr} (h : EM X a ρ M fun d M1 => ∃ k, d = .bl k ∧ if k = true then EM X (.BoolOp .And (b :: r) pos) ρ M1 P else P (.bl false) M1) : EM X (.BoolOp .And (a :: b :: r) pos) ρ M P := ⟨fun F σ B H hr hx Q q =>
  WE.of (pe_and WE.pe WE.pe) (h F σ B H hr hx _ fun d M1 v B1 H1 ⟨k, e, p⟩ s x rv => by
    subst e
    cases rv
    refine ⟨k, rfl, ?_⟩
    cases k with
    | true => exact (it1 p) F σ B1 H1 (hr.mono s) x Q fun b' M' v' B' H' p' s' => q b' M' v' B' H' p' (s.trans s')
    | false => exact q _ M1 _ B1 H1 p s x (.bl false))⟩
theorem EM.or {r : List Expr} (h : EM X a ρ M fun d M1 => ∃ k, d = .bl k ∧ if k = true then P (.bl true) M1 else EM X (.BoolOp .Or (b :: r) pos) ρ M1 P) : EM X (.BoolOp .Or (a :: b :: r) pos) ρ M P := ⟨fun F σ B H hr hx Q q =>
  WE.of (pe_or WE.pe WE.pe) (h F σ B H hr hx _ fun d M1 v B1 H1 ⟨k, e, p⟩ s x rv => by
    subst e
    cases rv
    refine ⟨k, rfl, ?_⟩
    cases k with
    | true => exact q _ M1 _ B1 H1 p s x (.bl true)
    | false => exact (it0 p) F σ B1 H1 (hr.mono s) x Q fun b' M' v' B' H' p' s' => q b' M' v' B' H' p' (s.trans s'))⟩
theorem EM.not (h : EM X a ρ M fun d M1 => ∃ k, d = .bl k ∧ P (.bl (!k)) M1) : EM X (.UnaryOp .Not a pos) ρ M P := ⟨fun F σ B H hr hx Q q =>
  WE.of (pe_not WE.pe) (h F σ B H hr hx _ fun d M1 v B1 H1 ⟨k, e, p⟩ s x rv => by
    subst e
    cases rv
    exact ⟨k, rfl, q _ M1 _ B1 H1 p s x (.bl _)⟩)⟩
theorem EM.neg (h : EM X a ρ M fun d M1 => ∃ k, d = .int k ∧ P (.int (-k)) M1) : EM X (.UnaryOp .USub a pos) ρ M P := ⟨fun F σ B H hr hx Q q =>
  WE.of (pe_un un_neg WE.pe) (h F σ B H hr hx _ fun d M1 v B1 H1 ⟨k, e, p⟩ s x rv => by
    subst e
    cases rv
    exact ⟨k, rfl, q _ M1 _ B1 H1 p s x (.int _)⟩)⟩
theorem EM.ife (h : TM X c ρ M fun k M1 => if k = true then EM X a ρ M1 P else EM X b ρ M1 P) : EM X (.IfExp c a b pos) ρ M P := ⟨fun F σ B H hr hx Q q =>
  WE.of (pe_ifExp WT.pt WE.pe WE.pe) (h F σ B H hr hx _ fun k M1 B1 H1 p s x => by
    cases k with
    | true => exact (it1 p) F σ B1 H1 (hr.mono s) x Q fun b' M' v' B' H' p' s' => q b' M' v' B' H' p' (s.trans s')
    | false => exact (it0 p) F σ B1 H1 (hr.mono s) x Q fun b' M' v' B' H' p' s' => q b' M' v' B' H' p' (s.trans s'))⟩
/-- two comparisons in a row -/
theorem chain3 {r r' : R2} {R R' : DR} (hd : DOp X.K r R) (hd' : DOp X.K r' R') {P : D → Mem → Prop}
    (h : EM X a ρ M fun d M1 => EM X b ρ M1 fun e M2 => R d e M2 fun z M3 => ∃ k, z = .bl k ∧ if k = true then EM X c ρ M3 (fun g M4 => R' e g M4 P) else P (.bl false) M3)
    {F : Mem} {σ : L2.St} {B H : Hp} (hr : EnvRep X.K B σ ρ) (hx : Holds X.K B (M ++ F) H) {Q : VK} (q : ∀ d M' v B' H', P d M' → Same B B' → Holds X.K B' (M' ++ F) H' → Rep X.K B' v d → Q v H') :
    WE X a σ H fun x H1 => WE X b σ H1 fun y H2 => r x y H2 fun z H3 => ∃ k, z = .bl k ∧ if k = true then WE X c σ H3 (fun w H4 => r' y w H4 Q) else Q (.bl false) H3 := by
  refine h F σ B H hr hx _ fun d M1 x B1 H1 h1 s1 x1 r1 => ?_
  refine h1 F σ B1 H1 (hr.mono s1) x1 _ fun e M2 y B2 H2 h2 s2 x2 r2 => ?_
  refine hd F B2 M2 H2 x y d e _ _ x2 (r1.mono s2) r2 h2 fun z M3 v B3 H3 ⟨k, ez, pz⟩ s3 x3 r3 => ?_
  subst ez
  cases r3
  refine ⟨k, rfl, ?_⟩
  cases k with
  | false =>
    rw [if_neg Bool.false_ne_true] at pz ⊢
    exact q _ M3 _ B3 H3 pz (s1.trans (s2.trans s3)) x3 (.bl false)
  | true =>
    rw [if_pos rfl] at pz ⊢
    refine pz F σ B3 H3 (hr.mono (s1.trans (s2.trans s3))) x3 _ fun g M4 w B4 H4 h4 s4 x4 r4 => ?_
    exact hd' F B4 M4 H4 y w e g P Q x4 (r2.mono (s3.trans s4)) r4 h4 fun z M5 v B' H' pz s5 x5 r5 => q z M5 v B' H' pz (s1.trans (s2.trans (s3.trans (s4.trans s5)))) x5 r5
theorem EM.chain {op op' : CmpOp} {r r' : R2} {R R' : DR} (ho : OpR X (compareOp op) r) (ho' : OpR X (compareOp op') r') (hd : DOp X.K r R) (hd' : DOp X.K r' R')
    (h : EM X a ρ M fun d M1 => EM X b ρ M1 fun e M2 => R d e M2 fun z M3 => ∃ k, z = .bl k ∧ if k = true then EM X c ρ M3 (fun g M4 => R' e g M4 P) else P (.bl false) M3)
    (hm : lastMarks [op, op'] [b, c] = false := by with_unfolding_all rfl) : EM X (.Compare a [op, op'] [b, c] pos) ρ M P := ⟨fun F σ B H hr hx Q q =>
  WE.of (pe_chain ho ho' WE.pe WE.pe WE.pe hm) (chain3 hd hd' h hr hx q)⟩
theorem TM.chain {op op' : CmpOp} {r r' : R2} {R R' : DR} {P : Bool → Mem → Prop} (ho : OpR X (compareOp op) r) (ho' : OpR X (compareOp op') r') (hd : DOp X.K r R) (hd' : DOp X.K r' R')
    (h : EM X a ρ M fun d M1 => EM X b ρ M1 fun e M2 => R d e M2 fun z M3 => ∃ k, z = .bl k ∧ if k = true then EM X c ρ M3 (fun g M4 => R' e g M4 fun z M5 => ∃ k, z = .bl k ∧ P k M5) else ∃ k, D.bl false = .bl k ∧ P k M3)
    (hm : lastMarks [op, op'] [b, c] = false := by with_unfolding_all rfl) : TM X (.Compare a [op, op'] [b, c] pos) ρ M P := ⟨fun F σ B H hr hx Q q =>
  WT.of (pt_chain ho ho' WE.pe WE.pe WE.pe hm) (chain3 (P := fun z M => ∃ k, z = .bl k ∧ P k M) hd hd' h hr hx fun d M' v B' H' ⟨k, e, p⟩ s x r => by
    subst e
    cases r
    exact ⟨k, rfl, q k M' B' H' p s x⟩)⟩
end
end Dl
namespace Dl
open PySem PySem.Spec PyProof.Rows L2

/-! ### operations -/
section
variable {K : PySem.W.Frag}
def RInt (C : Int → Int → Prop) (g : Int → Int → D) : DR := fun d e M P => match d, e with
  | .int i, .int j => C i j ∧ P (g i j) M
  | _, _ => False
theorem dInt {C C' : Int → Int → Prop} {g : Int → Int → V} {g' : Int → Int → D} (hC : ∀ i j, C' i j → C i j) (hg : ∀ (B : Hp) i j, Rep K B (g i j) (g' i j)) : DOp K (rI C g) (RInt C' g') := by
  intro F B M H x y d e P Q hx r1 r2 hR q
  cases d <;> cases e <;> try exact hR.elim
  cases r1; cases r2
  exact ⟨_, _, rfl, rfl, hC _ _ hR.1, q _ M _ B H hR.2 (Same.refl B) hx (hg B _ _)⟩
theorem dInt0 {g : Int → Int → V} {g' : Int → Int → D} (hg : ∀ (B : Hp) i j, Rep K B (g i j) (g' i j)) : DOp K (rI0 g) (RInt (fun _ _ => True) g') := by
  intro F B M H x y d e P Q hx r1 r2 hR q
  cases d <;> cases e <;> try exact hR.elim
  cases r1; cases r2
  exact ⟨_, _, rfl, rfl, q _ M _ B H hR.2 (Same.refl B) hx (hg B _ _)⟩
abbrev rSubI : R2 := rI0 fun i j => .int (i - j)
abbrev RSub : DR := RInt (fun _ _ => True) fun i j => .int (i - j)
theorem dSub : DOp K rSubI RSub := dInt0 fun _ _ _ => .int _
abbrev RMod : DR := RInt (fun _ j => 0 < j) fun i j => .int (i % j)
theorem dMod : DOp K (rI (fun _ j => 0 < j) fun i j => .int (i % j)) RMod := dInt (fun _ _ h => h) fun _ _ _ => .int _
abbrev RDiv : DR := RInt (fun _ j => 0 < j ∧ j < 1073741824) fun i j => .int (i / j)
theorem dDiv : DOp K (rI CDiv fun i j => .int (i / j)) RDiv := dInt (fun _ _ h => h) fun _ _ _ => .int _
abbrev RPow : DR := RInt (fun i j => 0 ≤ j ∧ j ≤ 1000000 ∧ i.natAbs < 2 ^ 64) fun i j => .int (i ^ j.toNat)
theorem dPow : DOp K (rI CPow fun i j => .int (i ^ j.toNat)) RPow := dInt (fun _ _ h => h) fun _ _ _ => .int _
abbrev RLt : DR := RInt (fun _ _ => True) fun i j => .bl (decide (i < j))
abbrev RLe : DR := RInt (fun _ _ => True) fun i j => .bl (decide (i ≤ j))
abbrev RGt : DR := RInt (fun _ _ => True) fun i j => .bl (decide (j < i))
abbrev RGe : DR := RInt (fun _ _ => True) fun i j => .bl (decide (j ≤ i))
theorem dLt : DOp K (rI0 fun i j => .bl (decide (i < j))) RLt := dInt0 fun _ _ _ => .bl _
theorem dLe : DOp K (rI0 fun i j => .bl (decide (i ≤ j))) RLe := dInt0 fun _ _ _ => .bl _
theorem dGt : DOp K (rI0 fun i j => .bl (decide (j < i))) RGt := dInt0 fun _ _ _ => .bl _
theorem dGe : DOp K (rI0 fun i j => .bl (decide (j ≤ i))) RGe := dInt0 fun _ _ _ => .bl _
/-- int * int; the lists and tuples times an int have rules of their own -/
abbrev RMul : DR := RInt (fun i j => (-(2 ^ 64) < i ∧ i < 2 ^ 64) ∨ (-(2 ^ 64) < j ∧ j < 2 ^ 64)) fun i j => .int (i * j)
theorem dMul : DOp K (rI CMul fun i j => .int (i * j)) RMul := dInt (fun _ _ h => h) fun _ _ _ => .int _
/-- [a] * n: a new list -/
def RRepM : DR := fun d e M P => match d, e with
  | .lst l, .int k => -(2 ^ 63) ≤ k ∧ k < 2 ^ 63 ∧ l.length * k.toNat ≤ sizeLine ∧ ∀ p, P (.raw (.ref p)) ((p, .lst (List.replicate k.toNat l).flatten) :: M)
  | _, _ => False
theorem Reps.flat {B : Hp} {xs : List V} {ds : List D} (r : Reps K B xs ds) : ∀ k : Nat, Reps K B (List.replicate k xs).flatten (List.replicate k ds).flatten
  | 0 => .nil
  | k + 1 => by
    rw [List.replicate_succ, List.replicate_succ, List.flatten_cons, List.flatten_cons]
    exact r.append (Reps.flat r k)
theorem dRepM : DOp K rRep RRepM := by
  intro F B M H x y d e P Q hx r1 r2 hR q
  cases d <;> cases e <;> try exact hR.elim
  cases r1 with
  | lst h1 rs =>
    cases r2
    obtain ⟨h2, h3, h4, h5⟩ := hR
    refine ⟨_, _, _, rfl, rfl, hx.fr _ _ h1, h2, h3, by rw [rs.length]; exact h4, fun p hp => ?_⟩
    exact q _ _ _ B _ (h5 p) (Same.refl B) (hx.alloc hp (.lst (rs.flat _))) (.raw _)
/-- + -/
def rAddA : R2 := fun x y H Q => (∃ i j, x = .int i ∧ y = .int j ∧ Q (.int (i + j)) H) ∨ (∃ i j, x = .str i ∧ y = .str j ∧ i.length + j.length ≤ sizeLine ∧ Q (.str (i ++ j)) H)
theorem op_addA {X : Cx} : OpR X (binaryOp .Add) rAddA := op_add.or op_add_str
def RAdd : DR := fun d e M P => match d, e with
  | .int i, .int j => P (.int (i + j)) M
  | .str x, .str y => x.length + y.length ≤ sizeLine ∧ P (.str (x ++ y)) M
  | _, _ => False
theorem dAdd : DOp K rAddA RAdd := by
  intro F B M H x y d e P Q hx r1 r2 hR q
  cases d <;> cases e <;> (try exact hR.elim) <;> cases r1 <;> cases r2
  · exact .inl ⟨_, _, rfl, rfl, q _ M _ B H hR (Same.refl B) hx (.int _)⟩
  · exact .inr ⟨_, _, rfl, rfl, hR.1, q _ M _ B H hR.2 (Same.refl B) hx (.str _)⟩
/-- list + list: a new list -/
def RCatM : DR := fun d e M P => match d, e with
  | .lst l, .lst m => l.length + m.length ≤ sizeLine ∧ ∀ p, P (.raw (.ref p)) ((p, .lst (l ++ m)) :: M)
  | _, _ => False
theorem dCatM : DOp K rCat RCatM := by
  intro F B M H x y d e P Q hx r1 r2 hR q
  cases d <;> cases e <;> try exact hR.elim
  cases r1 with
  | lst h1 rs =>
    cases r2 with
    | lst h2 rt =>
      obtain ⟨h3, h5⟩ := hR
      refine ⟨_, _, _, _, rfl, rfl, hx.fr _ _ h1, hx.fr _ _ h2, by rw [rs.length, rt.length]; exact h3, fun p hp => ?_⟩
      exact q _ _ _ B _ (h5 p) (Same.refl B) (hx.alloc hp (.lst (rs.append rt))) (.raw _)
/-- tuple + tuple, the left not empty -/
def RCatT : DR := fun d e M P => match d, e with
  | .tup l, .tup m => l ≠ [] ∧ l.length + m.length ≤ sizeLine ∧ P (.tup (l ++ m)) M
  | _, _ => False
theorem dCatT : DOp K (rCatT K) RCatT := by
  intro F B M H x y d e P Q hx r1 r2 hR q
  cases d <;> cases e <;> try exact hR.elim
  cases r1 with
  | @tup _ xs _ h1 rs =>
    cases r2 with
    | @tup _ ys _ h2 rt =>
      obtain ⟨h3, h4, h5⟩ := hR
      refine ⟨_, _, _, _, rfl, rfl, (tupAt_mono hx.fr h1).sq, (tupAt_mono hx.fr h2).sq, fun z => ?_, by rw [rs.length, rt.length]; exact h4, fun z => ?_, fun z p hp => ?_⟩
      · subst z
        cases rs
        exact h3 rfl
      · subst z
        cases rt
        refine q _ M _ B H h5 (Same.refl B) hx ?_
        rw [List.append_nil]
        exact .tup h1 rs
      · have s : Same B (L2.upd B p (.tup (xs ++ ys))) := Same.upd (hx.free hp)
        exact q _ M _ _ _ h5 s (hx.new hp) (.tup (.inl upd_same) ((rs.append rt).mono s))
/-- a[i] -/
def rIxD (K : PySem.W.Frag) : R2 := rIx K
def RIx : DR := fun d e M P => match d, e with
  | .lst l, .int i => ∃ z, atI l i = some z ∧ P z M
  | .tup l, .int i => ∃ z, atI l i = some z ∧ P z M
  | .scr l, .int i => ∃ z, atI l i = some z ∧ P (.int z) M
  | .str z, .int i => ∃ c, z.length ≤ sizeLine ∧ atI z.cps.toList i = some c ∧ P (.str ⟨#[c]⟩) M
  | .raw (.ref p), .int i => ∃ (k : Nat) (l : List D) (z : D), M[k]? = some (p, MO.lst l) ∧ atI l i = some z ∧ P z M
  | _, _ => False
theorem Reps.atI {B : Hp} {vs : List V} {ds : List D} {i : Int} {d : D} (r : Reps K B vs ds) (h : L2.atI ds i = some d) : ∃ v, L2.atI vs i = some v ∧ Rep K B v d := by
  unfold L2.atI at h ⊢
  rw [r.length]
  cases e : ixN ds.length i with
  | none => rw [e] at h; cases h
  | some j =>
    rw [e] at h
    exact r.get h
theorem at_app {M F : Mem} {k : Nat} {c : Addr × MO} (h : M[k]? = some c) : (M ++ F)[k]? = some c := by
  rw [List.getElem?_append_left (List.getElem?_eq_some_iff.mp h).1]
  exact h
theorem set_app {M F : Mem} {k : Nat} {c d : Addr × MO} (h : M[k]? = some c) : (M ++ F).set k d = M.set k d ++ F := by
  rw [List.set_append_left _ _ (List.getElem?_eq_some_iff.mp h).1]
theorem erase_app {M F : Mem} {k : Nat} {c : Addr × MO} (h : M[k]? = some c) : (M ++ F).eraseIdx k = M.eraseIdx k ++ F := by
  rw [List.eraseIdx_append_of_lt_length (List.getElem?_eq_some_iff.mp h).1]
theorem atI_ints {ns : List Int} {i z : Int} (h : atI ns i = some z) : atI (ns.map V.int) i = some (.int z) := by
  unfold L2.atI at h ⊢
  rw [List.length_map]
  cases e : ixN ns.length i with
  | none => rw [e] at h; cases h
  | some j =>
    rw [e] at h
    simp only [Option.bind_some] at h ⊢
    rw [List.getElem?_map, h] <;> rfl
theorem dIx : DOp K (rIx K) RIx := by
  intro F B M H x y d e P Q hx r1 r2 hR q
  match d, e, r1, r2, hR with
  | .str z, .int i, .str _, .int _, ⟨c, h1, h2, h3⟩ => exact .inr (.inr ⟨_, _, c, rfl, rfl, h1, h2, q _ M _ B H h3 (Same.refl B) hx (.str _)⟩)
  | .tup l, .int i, .tup g1 rs, .int _, ⟨z, h1, h2⟩ =>
    obtain ⟨v, a1, a2⟩ := rs.atI h1
    exact .inr (.inl ⟨_, _, _, v, rfl, rfl, (tupAt_mono hx.fr g1).sq, a1, q _ M _ B H h2 (Same.refl B) hx a2⟩)
  | .lst l, .int i, .lst g1 rs, .int _, ⟨z, h1, h2⟩ =>
    obtain ⟨v, a1, a2⟩ := rs.atI h1
    exact .inl ⟨_, _, _, v, rfl, rfl, SqL.of (hx.fr _ _ g1), a1, q _ M _ B H h2 (Same.refl B) hx a2⟩
  | .scr l, .int i, .scr g1, .int _, ⟨z, h1, h2⟩ =>
    exact .inl ⟨_, _, _, .int z, rfl, rfl, sqL_mono hx.fr g1, atI_ints h1, q _ M _ B H h2 (Same.refl B) hx (.int z)⟩
  | .raw (.ref p), .int i, .raw _, .int _, ⟨k, l, z, h1, h2, h3⟩ =>
    obtain ⟨o, a1, a2, _⟩ := hx.at (at_app h1)
    cases a2 with
    | lst rs =>
      obtain ⟨v, b1, b2⟩ := rs.atI h2
      exact .inl ⟨_, _, _, v, rfl, rfl, SqL.of a1, b1, q _ M _ B H h3 (Same.refl B) hx b2⟩
/-! == and != of plain data -/
mutual
def D.pd : D → PyData
  | .non => .none
  | .bl b => .bool b
  | .int i => .int i
  | .str x => .str x
  | .tup l => .tuple (pds l)
  | .lst l => .list (pds l)
  | .scr l => .list (l.map PyData.int)
  | .raw _ => .none
def pds : List D → List PyData
  | [] => []
  | d :: l => d.pd :: pds l
end
end
end Dl
namespace Dl
open PySem PySem.Spec PyProof.Rows L2

/-! ### lent: the lists that may change, read as they are now -/
mutual
inductive Lent (M : Mem) : D → D → Prop
  | same (d : D) : Lent M d d
  | cell {k : Nat} {p : Addr} {l : List D} : M[k]? = some (p, .lst l) → Lent M (.raw (.ref p)) (.lst l)
  | cellD {k : Nat} {p : Addr} {l l' : List D} : M[k]? = some (p, .lst l) → Lents M l l' → Lent M (.raw (.ref p)) (.lst l')
  | tup {l l' : List D} : Lents M l l' → Lent M (.tup l) (.tup l')
  | lst {l l' : List D} : Lents M l l' → Lent M (.lst l) (.lst l')
inductive Lents (M : Mem) : List D → List D → Prop
  | nil : Lents M [] []
  | cons {d d' : D} {l l' : List D} : Lent M d d' → Lents M l l' → Lents M (d :: l) (d' :: l')
end
mutual
def D.plain : D → Bool
  | .tup l => plains l
  | .lst l => plains l
  | .raw _ => false
  | _ => true
def plains : List D → Bool
  | [] => true
  | d :: l => d.plain && plains l
end
/-- all the cells as left alone -/
noncomputable def shut (B H : Hp) (M : Mem) : Hp := fun a => open Classical in if ∃ c ∈ M, c.1 = a then H a else B a
section
variable {K : PySem.W.Frag} {B H : Hp} {M : Mem}
theorem shut_at {c : Addr × MO} (h : c ∈ M) : shut B H M c.1 = H c.1 := by
  unfold shut
  rw [if_pos ⟨c, h, rfl⟩]
theorem shut_ne {a : Addr} (h : ∀ c ∈ M, c.1 ≠ a) : shut B H M a = B a := by
  unfold shut
  rw [if_neg (fun ⟨c, h1, h2⟩ => h c h1 h2)]
theorem Holds.same_shut (x : Holds K B M H) : Same B (shut B H M) := fun a o e => by
  rw [shut_ne fun c hc q => by rw [← q, x.out c hc] at e; cases e]
  exact e
theorem Holds.shut_same (x : Holds K B M H) : Same (shut B H M) H := fun a o e => by
  unfold shut at e
  split at e
  · exact e
  · exact x.fr a o e
theorem Holds.shut (x : Holds K B M H) : Holds K (Dl.shut B H M) [] H := ⟨x.shut_same, (fun _ h => nomatch h), (fun _ h => nomatch h), List.nodup_nil⟩
/-- .. and opened again: nothing tracked has changed -/
theorem Holds.reopen (x : Holds K B M H) {B' H' : Hp} (s : Same (Dl.shut B H M) B') (y : Same B' H') : Holds K B M H' :=
  ⟨fun a o e => y a o (s a o (x.same_shut a o e)), fun c hc => by
    obtain ⟨o, h1, h2⟩ := x.mem c hc
    exact ⟨o, y _ _ (s _ _ (by rw [shut_at hc]; exact h1)), h2⟩, x.out, x.nd⟩
mutual
theorem Lent.rep {M F : Mem} (x : Holds K B (M ++ F) H) : ∀ {v : V} {d d' : D}, Lent M d d' → Rep K B v d → Rep K (shut B H (M ++ F)) v d'
  | _, _, _, .same _, r => r.mono x.same_shut
  | _, _, _, .cell h, .raw _ => by
    obtain ⟨o, h1, h2, _⟩ := x.at (at_app h)
    cases h2 with
    | lst r => exact .lst (by rw [shut_at (c := _) (List.mem_of_getElem? (at_app h))]; exact h1) (r.mono x.same_shut)
  | _, _, _, .cellD h hl, .raw _ => by
    obtain ⟨o, h1, h2, _⟩ := x.at (at_app h)
    cases h2 with
    | lst r => exact .lst (by rw [shut_at (c := _) (List.mem_of_getElem? (at_app h))]; exact h1) (Lents.rep x hl r)
  | _, _, _, .tup h, .tup a r => .tup (tupAt_mono x.same_shut a) (Lents.rep x h r)
  | _, _, _, .lst h, .lst a r => .lst (x.same_shut _ _ a) (Lents.rep x h r)
theorem Lents.rep {M F : Mem} (x : Holds K B (M ++ F) H) : ∀ {v : List V} {d d' : List D}, Lents M d d' → Reps K B v d → Reps K (shut B H (M ++ F)) v d'
  | _, _, _, .nil, .nil => .nil
  | _, _, _, .cons h t, .cons r rs => .cons (Lent.rep x h r) (Lents.rep x t rs)
end
theorem dpAll_ints : ∀ ns : List Int, DpAll K H (ns.map V.int) (ns.map PyData.int)
  | [] => .nil
  | n :: ns => .cons (.int n) (dpAll_ints ns)
mutual
theorem Rep.dp : ∀ {v : V} {d : D}, d.plain = true → Rep K H v d → Dp K H v d.pd
  | _, _, _, .non => by rw [D.pd]; exact .non
  | _, _, _, .bl b => by rw [D.pd]; exact .bl b
  | _, _, _, .int i => by rw [D.pd]; exact .int i
  | _, _, _, .str x => by rw [D.pd]; exact .str x
  | _, _, h, .tup a r => by rw [D.pd]; exact .tup a.sq (Reps.dp (by simpa only [D.plain] using h) r)
  | _, _, h, .lst a r => by rw [D.pd]; exact .lst (SqL.of a) (Reps.dp (by simpa only [D.plain] using h) r)
  | _, _, _, .scr a => by rw [D.pd]; exact .lst a (dpAll_ints _)
  | _, _, h, .raw _ => by simp [D.plain] at h
theorem Reps.dp : ∀ {v : List V} {d : List D}, plains d = true → Reps K H v d → DpAll K H v (pds d)
  | _, _, _, .nil => by rw [pds]; exact .nil
  | _, _, h, .cons r rs => by
    rw [pds]
    rw [plains, Bool.and_eq_true] at h
    exact .cons (Rep.dp h.1 r) (Reps.dp h.2 rs)
end
end
def D.ok (d : D) : Bool := d.plain && SeqAt.shaped d.pd
def D.eqv (d e : D) : Bool := PyData.eqv d.pd e.pd
def rEqA (K : PySem.W.Frag) : R2 := fun x y H Q => rEq x y H Q ∨ rEqD K x y H Q
def rNeA (K : PySem.W.Frag) : R2 := fun x y H Q => rNe x y H Q ∨ rNeD K x y H Q
theorem op_eqA {X : Cx} (hu : X.A.units + 64 < cLine) : OpR X (compareOp .Eq) (rEqA X.K) := op_eq.or (op_eqD hu)
theorem op_neA {X : Cx} (hu : X.A.units + 64 < cLine) : OpR X (compareOp .NotEq) (rNeA X.K) := op_ne.or (op_neD hu)
def REqG (f : Bool → Bool) : DR := fun d e M P => match d, e with
  | .int i, .int j => P (.bl (f (decide (i = j)))) M
  | .str i, .str j => P (.bl (f (decide (i = j)))) M
  | .bl i, .bl j => P (.bl (f (decide (i = j)))) M
  | d, e => ∃ d' e', Lent M d d' ∧ Lent M e e' ∧ d'.ok = true ∧ e'.ok = true ∧ P (.bl (f (d'.eqv e'))) M
abbrev REq : DR := REqG id
abbrev RNe : DR := REqG not
section
variable {K : PySem.W.Frag}
theorem deepEq {F M : Mem} {B H : Hp} {x y : V} {d e d' e' : D} (hx : Holds K B (M ++ F) H) (r1 : Rep K B x d) (r2 : Rep K B y e) (l1 : Lent M d d') (l2 : Lent M e e') (o1 : d'.ok = true) (o2 : e'.ok = true) :
    Dp K H x d'.pd ∧ Dp K H y e'.pd ∧ SeqAt.shaped d'.pd = true ∧ SeqAt.shaped e'.pd = true := by
  unfold D.ok at o1 o2
  rw [Bool.and_eq_true] at o1 o2
  exact ⟨((l1.rep hx r1).mono hx.shut_same).dp o1.1, ((l2.rep hx r2).mono hx.shut_same).dp o2.1, o1.2, o2.2⟩
theorem dEq : DOp K (rEqA K) REq := by
  intro F B M H x y d e P Q hx r1 r2 hR q
  unfold REq REqG at hR
  split at hR
  · cases r1; cases r2
    exact .inl ⟨rfl, q _ M _ B H hR (Same.refl B) hx (by simp only [V.int.injEq]; exact .bl _)⟩
  · cases r1; cases r2
    exact .inl ⟨rfl, q _ M _ B H hR (Same.refl B) hx (by simp only [V.str.injEq]; exact .bl _)⟩
  · cases r1; cases r2
    exact .inl ⟨rfl, q _ M _ B H hR (Same.refl B) hx (by simp only [V.bl.injEq]; exact .bl _)⟩
  · obtain ⟨d', e', l1, l2, o1, o2, h⟩ := hR
    obtain ⟨h1, h2, h3, h4⟩ := deepEq hx r1 r2 l1 l2 o1 o2
    exact .inr ⟨_, _, h1, h2, h3, h4, q _ M _ B H h (Same.refl B) hx (.bl _)⟩
theorem dNe : DOp K (rNeA K) RNe := by
  intro F B M H x y d e P Q hx r1 r2 hR q
  unfold RNe REqG at hR
  split at hR
  · cases r1; cases r2
    exact .inl ⟨rfl, q _ M _ B H hR (Same.refl B) hx (by simp only [V.int.injEq]; exact .bl _)⟩
  · cases r1; cases r2
    exact .inl ⟨rfl, q _ M _ B H hR (Same.refl B) hx (by simp only [V.str.injEq]; exact .bl _)⟩
  · cases r1; cases r2
    exact .inl ⟨rfl, q _ M _ B H hR (Same.refl B) hx (by simp only [V.bl.injEq]; exact .bl _)⟩
  · obtain ⟨d', e', l1, l2, o1, o2, h⟩ := hR
    obtain ⟨h1, h2, h3, h4⟩ := deepEq hx r1 r2 l1 l2 o1 o2
    exact .inr ⟨_, _, h1, h2, h3, h4, q _ M _ B H h (Same.refl B) hx (.bl _)⟩
/-- is None -/
def rIsN : R2 := fun x y H Q => y = .non ∧ Q (.bl (decide (x = .non))) H
def rNotN : R2 := fun x y H Q => y = .non ∧ Q (.bl (!decide (x = .non))) H
def D.isN : D → Option Bool
  | .non => some true
  | .raw (.ref _) => some false
  | .raw _ => none
  | _ => some false
def RIsN : DR := fun d e M P => match e, d.isN with
  | .non, some b => P (.bl b) M
  | _, _ => False
def RNotN : DR := fun d e M P => match e, d.isN with
  | .non, some b => P (.bl (!b)) M
  | _, _ => False
theorem isN_of {B : Hp} {x : V} {d : D} {b : Bool} (r : Rep K B x d) (h : d.isN = some b) : decide (x = .non) = b := by
  cases r with
  | raw _ => cases x <;> simp_all [D.isN]
  | _ => simp_all [D.isN]
theorem dIsN : DOp K rIsN RIsN := by
  intro F B M H x y d e P Q hx r1 r2 hR q
  unfold RIsN at hR
  split at hR
  · rename_i b h
    cases r2
    refine ⟨rfl, ?_⟩
    rw [isN_of r1 h]
    exact q _ M _ B H hR (Same.refl B) hx (.bl b)
  · exact hR.elim
theorem dNotN : DOp K rNotN RNotN := by
  intro F B M H x y d e P Q hx r1 r2 hR q
  unfold RNotN at hR
  split at hR
  · rename_i b h
    cases r2
    refine ⟨rfl, ?_⟩
    rw [isN_of r1 h]
    exact q _ M _ B H hR (Same.refl B) hx (.bl _)
  · exact hR.elim
end

/-! ### arguments, displays -/
section
variable {X : Cx} {N : List Str} {sc : Scope} {ρ ρ' : Rho} {M : Mem} {P P' : D → Mem → Prop} {e a b c : Expr} {es : List Expr} {pos : Pos}
theorem AM.nil {P : List D → Mem → Prop} (p : P [] M) : AM X [] ρ M P := ⟨fun F σ B H hr hx Q q => WA.of pa_nil (q [] M [] B H p (Same.refl B) hx .nil)⟩
theorem AM.cons {P : List D → Mem → Prop} (h : EM X e ρ M fun d M1 => AM X es ρ M1 fun ds M2 => P (d :: ds) M2) (hs : starEach (e :: es) X.env = (false, eval e X.env) :: starEach es X.env := by rfl) : AM X (e :: es) ρ M P := ⟨fun F σ B H hr hx Q q =>
  WA.of (pa_cons WE.pe WA.pa hs) (h F σ B H hr hx _ fun d M1 v B1 H1 h1 s1 x1 r1 => h1 F σ B1 H1 (hr.mono s1) x1 _ fun ds M2 vs B2 H2 h2 s2 x2 r2 => q _ M2 _ B2 H2 h2 (s1.trans s2) x2 (.cons (r1.mono s2) r2))⟩
theorem EM.tup {x1 : _} (h : AM X es ρ M fun ds M1 => ds.length ≤ sizeLine ∧ P (.tup ds) M1) : EM X (.Tuple es x1 pos) ρ M P := ⟨fun F σ B H hr hx Q q =>
  WE.of (pe_tup WA.pa) (h F σ B H hr hx _ fun ds M1 vs B1 H1 ⟨hl, h1⟩ s1 x1 r1 => ⟨by rw [r1.length]; exact hl, fun p hp => by
    have s2 : Same B1 (L2.upd B1 p (.tup vs)) := Same.upd (x1.free hp)
    exact q _ M1 _ _ _ h1 (s1.trans s2) (x1.new hp) (.tup (.inl upd_same) (r1.mono s2))⟩)⟩
/-- a new list -/
theorem EM.lstM (h : AM X es ρ M fun ds M1 => ds.length ≤ sizeLine ∧ ∀ p, P (.raw (.ref p)) ((p, .lst ds) :: M1)) : EM X (.List es pos) ρ M P := ⟨fun F σ B H hr hx Q q =>
  WE.of (pe_lst WA.pa) (h F σ B H hr hx _ fun ds M1 vs B1 H1 ⟨hl, h1⟩ s1 x1 r1 => ⟨by rw [r1.length]; exact hl, fun p hp => by
    exact q _ _ _ B1 _ (h1 p) s1 (x1.alloc hp (.lst r1)) (.raw _)⟩)⟩
/-- a list that one has just made, from now on left as it is -/
def Fz (P : D → Mem → Prop) : D → Mem → Prop := fun d M => ∃ (p : Addr) (k : Nat) (l : List D), d = .raw (.ref p) ∧ M[k]? = some (p, .lst l) ∧ P (.lst l) (M.eraseIdx k)
theorem EM.fz (h : EM X e ρ M (Fz P)) : EM X e ρ M P := ⟨fun F σ B H hr hx Q q => h F σ B H hr hx Q fun d M' v B' H' ⟨p, k, l, e1, e2, h1⟩ s x r => by
  subst e1
  cases r
  obtain ⟨xs, a1, a2, a3, a4⟩ := x.freeze (at_app e2)
  rw [erase_app e2] at a4
  exact q _ _ _ _ H' h1 (s.trans (Same.upd a2)) a4 a3⟩
theorem AM.to {P P' : List D → Mem → Prop} (h : AM X es ρ M P) (k : ∀ d M', P d M' → P' d M') : AM X es ρ M P' := ⟨fun F σ B H r x Q q => h F σ B H r x Q fun d M' v B' H' p => q d M' v B' H' (k d M' p)⟩
theorem EM.lst (h : AM X es ρ M fun ds M1 => ds.length ≤ sizeLine ∧ P (.lst ds) M1) : EM X (.List es pos) ρ M P := EM.fz (EM.lstM (h.to fun ds M' ⟨a, p⟩ => ⟨a, fun p' => ⟨p', 0, ds, rfl, rfl, p⟩⟩))

/-! ### calls of built-ins -/
abbrev DA := List D → Mem → (D → Mem → Prop) → Prop
def DCall (K : PySem.W.Frag) (r : List V → Hp → VK → Prop) (R : DA) : Prop := ∀ (F : Mem) (B : Hp) (M : Mem) (H : Hp) (vs : List V) (ds : List D) (P : D → Mem → Prop) (Q : VK), Holds K B (M ++ F) H → Reps K B vs ds → R ds M P →
  (∀ z M' v B' H', P z M' → Same B B' → Holds K B' (M' ++ F) H' → Rep K B' v z → Q v H') → r vs H Q
theorem EM.callB {x : Str} {id : String} {r : List V → Hp → VK → Prop} {R : DA} {p : Pos} (c : Ctx X N sc) (hc : CallR X (.builtin id) r) (hd : DCall X.K r R) (hm : X.mg x = none) (hv : bootBuiltins x = some (.builtin id)) (h : AM X (e :: es) ρ M fun ds M1 => R ds M1 P)
    (hg : glB sc x = true := by decide +kernel) (hn : x ≠ "__name__" := by decide +kernel) (hdb : (x == ("__debug__" : Str)) = false := by decide +kernel)
    (he : starEach (e :: es) X.env = (false, eval e X.env) :: starEach es X.env := by rfl) (hpl : (backTo pos (starEach es X.env)).any (·.1) = false := by rfl) : EM X (.Call (.Name x p) (e :: es) [] pos) ρ M P := ⟨fun F σ B H hr hx Q q =>
  WE.of (pe_callB hc (c.gl x hg) hm hv WA.pa hn hdb he hpl) (h F σ B H hr hx _ fun ds M1 vs B1 H1 h1 s1 x1 r1 => hd F B1 M1 H1 vs ds P Q x1 r1 h1 fun z M' v B' H' pz s2 x2 r2 => q z M' v B' H' pz (s1.trans s2) x2 r2)⟩
theorem EM.callT {x : Str} {T : String} {r : List V → Hp → VK → Prop} {R : DA} {p : Pos} (c : Ctx X N sc) (hc : CallR X (.type T) r) (hd : DCall X.K r R) (hm : X.mg x = none) (hv : bootBuiltins x = some (.type T)) (h : AM X (e :: es) ρ M fun ds M1 => R ds M1 P)
    (hg : glB sc x = true := by decide +kernel) (hn : x ≠ "__name__" := by decide +kernel) (hdb : (x == ("__debug__" : Str)) = false := by decide +kernel)
    (he : starEach (e :: es) X.env = (false, eval e X.env) :: starEach es X.env := by rfl) (hpl : (backTo pos (starEach es X.env)).any (·.1) = false := by rfl) : EM X (.Call (.Name x p) (e :: es) [] pos) ρ M P := ⟨fun F σ B H hr hx Q q =>
  WE.of (pe_callTy hc (c.gl x hg) hm hv WA.pa hn hdb he hpl) (h F σ B H hr hx _ fun ds M1 vs B1 H1 h1 s1 x1 r1 => hd F B1 M1 H1 vs ds P Q x1 r1 h1 fun z M' v B' H' pz s2 x2 r2 => q z M' v B' H' pz (s1.trans s2) x2 r2)⟩
/-- methods of built-in types -/
abbrev DM := D → List D → Mem → (D → Mem → Prop) → Prop
def DMeth (K : PySem.W.Frag) (T : String) (r : V → List V → Hp → VK → Prop) (tyD : D → Mem → Prop) (R : DM) : Prop :=
  (∀ (F : Mem) (B : Hp) (M : Mem) (H : Hp) (x : V) (d : D), Holds K B (M ++ F) H → Rep K B x d → tyD d M → tyV K T x H) ∧
  ∀ (F : Mem) (B : Hp) (M : Mem) (H : Hp) (x : V) (d : D) (vs : List V) (ds : List D) (P : D → Mem → Prop) (Q : VK), Holds K B (M ++ F) H → Rep K B x d → Reps K B vs ds → R d ds M P →
  (∀ z M' v B' H', P z M' → Same B B' → Holds K B' (M' ++ F) H' → Rep K B' v z → Q v H') → r x vs H Q
theorem EM.bm {name : Str} {T id : String} {r : V → List V → Hp → VK → Prop} {tyD : D → Mem → Prop} {R : DM} {o : Expr} {apos : Pos} (pa : PlainAttrs T) (slot : Slot T name id) (hty : typeOf (.builtin id) = pure (.type "method_descriptor")) (hm : MtR X id r) (hd : DMeth X.K T r tyD R)
    (h : EM X o ρ M fun d M1 => tyD d M1 ∧ AM X (e :: es) ρ M1 fun ds M2 => R d ds M2 P)
    (hbase : attributeBase o name X.env (eval o X.env) = eval o X.env := by rfl)
    (hfew : ((backTo pos (starEach (e :: es) X.env)).all (fun x => !x.1) && (backToKw pos (keywordEach [] X.env)).all (fun x => x.1.isSome)
      && decide ((e :: es).length + ([] : List Keyword).length + (if ([] : List Keyword).isEmpty then 0 else 1) < 30)) = true := by rfl)
    (hline : (apos.endLine == pos.line) = true := by rfl) (hs : starEach (e :: es) X.env = (false, eval e X.env) :: starEach es X.env := by rfl) (hplain : (backTo pos (starEach es X.env)).any (·.1) = false := by rfl) :
    EM X (.Call (.Attribute o name apos) (e :: es) [] pos) ρ M P := ⟨fun F σ B H hr hx Q q =>
  WE.of (pe_bm pa slot hty hm WE.pe WA.pa hbase hfew hline hs hplain) (h F σ B H hr hx _ fun d M1 v B1 H1 ⟨t, h1⟩ s1 x1 r1 => ⟨hd.1 F B1 M1 H1 v d x1 r1 t, h1 F σ B1 H1 (hr.mono s1) x1 _ fun ds M2 vs B2 H2 h2 s2 x2 r2 =>
    hd.2 F B2 M2 H2 v d vs ds P Q x2 (r1.mono s2) r2 h2 fun z M' v B' H' pz s3 x3 r3 => q z M' v B' H' pz (s1.trans (s2.trans s3)) x3 r3⟩)⟩
theorem EM.bm0 {name : Str} {T id : String} {r : V → List V → Hp → VK → Prop} {tyD : D → Mem → Prop} {R : DM} {o : Expr} {apos : Pos} (pa : PlainAttrs T) (slot : Slot T name id) (hty : typeOf (.builtin id) = pure (.type "method_descriptor")) (hm : MtR X id r) (hd : DMeth X.K T r tyD R)
    (h : EM X o ρ M fun d M1 => tyD d M1 ∧ R d [] M1 P)
    (hbase : attributeBase o name X.env (eval o X.env) = eval o X.env := by rfl) (hline : (apos.endLine == pos.line) = true := by rfl) : EM X (.Call (.Attribute o name apos) [] [] pos) ρ M P := ⟨fun F σ B H hr hx Q q =>
  WE.of (pe_bm0 pa slot hty hm WE.pe hbase hline) (h F σ B H hr hx _ fun d M1 v B1 H1 ⟨t, h1⟩ s1 x1 r1 => ⟨hd.1 F B1 M1 H1 v d x1 r1 t, 
    hd.2 F B1 M1 H1 v d [] [] P Q x1 r1 .nil h1 fun z M' v B' H' pz s3 x3 r3 => q z M' v B' H' pz (s1.trans s3) x3 r3⟩)⟩
end
end Dl
namespace Dl
open PySem PySem.Spec PyProof.Rows L2

/-! ### built-ins over data -/
section
variable {K : PySem.W.Frag}
def rLenA (K : PySem.W.Frag) : List V → Hp → VK → Prop := fun xs H Q => (∃ p ys, xs = [.ref p] ∧ (SqL K H p ys ∨ SqT K H p ys) ∧ Q (.int ys.length) H) ∨ ∃ z, xs = [.str z] ∧ z.length ≤ sizeLine ∧ Q (.int z.length) H
theorem call_lenA {X : Cx} : CallR X (.builtin "len") (rLenA X.K) := call_len_seq.or call_len_str
def RLen : DA := fun ds M P => match ds with
  | [.lst l] => P (.int l.length) M
  | [.tup l] => P (.int l.length) M
  | [.scr l] => P (.int l.length) M
  | [.str z] => z.length ≤ sizeLine ∧ P (.int z.length) M
  | [.raw (.ref p)] => ∃ (k : Nat) (l : List D), M[k]? = some (p, MO.lst l) ∧ P (.int l.length) M
  | _ => False
theorem dLen : DCall K (rLenA K) RLen := by
  intro F B M H vs ds P Q hx r hR q
  match vs, ds, r, hR with
  | _, [.lst l], .cons (.lst a rs) .nil, h => exact .inl ⟨_, _, rfl, .inl (SqL.of (hx.fr _ _ a)), by rw [rs.length]; exact q _ M _ B H h (Same.refl B) hx (.int _)⟩
  | _, [.tup l], .cons (.tup a rs) .nil, h => exact .inl ⟨_, _, rfl, .inr ((tupAt_mono hx.fr a).sq), by rw [rs.length]; exact q _ M _ B H h (Same.refl B) hx (.int _)⟩
  | _, [.scr l], .cons (.scr a) .nil, h => exact .inl ⟨_, _, rfl, .inl (sqL_mono hx.fr a), by rw [List.length_map]; exact q _ M _ B H h (Same.refl B) hx (.int _)⟩
  | _, [.str l], .cons (.str _) .nil, h => exact .inr ⟨_, rfl, h.1, q _ M _ B H h.2 (Same.refl B) hx (.int _)⟩
  | _, [.raw (.ref p)], .cons (.raw _) .nil, ⟨k, l, h1, h2⟩ =>
    obtain ⟨o, a1, a2, _⟩ := hx.at (at_app h1)
    cases a2 with
    | lst rs => exact .inl ⟨_, _, rfl, .inl (SqL.of a1), by rw [rs.length]; exact q _ M _ B H h2 (Same.refl B) hx (.int _)⟩
/-- max, min of a list of ints; of two ints -/
def RMaxL : DA := fun ds M P => ∃ ns : List Int, ds = [.lst (ns.map D.int)] ∧ 0 < ns.length ∧ ∀ m, m ∈ ns → (∀ y, y ∈ ns → y ≤ m) → P (.int m) M
def RMinL : DA := fun ds M P => ∃ ns : List Int, ds = [.lst (ns.map D.int)] ∧ 0 < ns.length ∧ ∀ m, m ∈ ns → (∀ y, y ∈ ns → m ≤ y) → P (.int m) M
theorem dMaxL : DCall K (rMax K) RMaxL := by
  intro F B M H vs ds P Q hx r hR q
  obtain ⟨ns, rfl, h0, h⟩ := hR
  match r with
  | .cons (.lst a rs) .nil =>
    have e := rs.intsOf
    subst e
    exact ⟨_, ns, rfl, SqL.of (hx.fr _ _ a), h0, fun m h1 h2 => q _ M _ B H (h m h1 h2) (Same.refl B) hx (.int _)⟩
theorem dMinL : DCall K (rMin K) RMinL := by
  intro F B M H vs ds P Q hx r hR q
  obtain ⟨ns, rfl, h0, h⟩ := hR
  match r with
  | .cons (.lst a rs) .nil =>
    have e := rs.intsOf
    subst e
    exact ⟨_, ns, rfl, SqL.of (hx.fr _ _ a), h0, fun m h1 h2 => q _ M _ B H (h m h1 h2) (Same.refl B) hx (.int _)⟩
def rMax2 : List V → Hp → VK → Prop := fun xs H Q => ∃ i j, xs = [.int i, .int j] ∧ Q (.int (if j > i then j else i)) H
def rMin2 : List V → Hp → VK → Prop := fun xs H Q => ∃ i j, xs = [.int i, .int j] ∧ Q (.int (if j < i then j else i)) H
def RMax2 : DA := fun ds M P => match ds with
  | [.int i, .int j] => P (.int (max i j)) M
  | _ => False
def RMin2 : DA := fun ds M P => match ds with
  | [.int i, .int j] => P (.int (min i j)) M
  | _ => False
theorem dMax2 : DCall K rMax2 RMax2 := by
  intro F B M H vs ds P Q hx r hR q
  match vs, ds, r, hR with
  | _, [.int i, .int j], .cons (.int _) (.cons (.int _) .nil), h =>
    refine ⟨i, j, rfl, ?_⟩
    have e : (if j > i then j else i) = max i j := by omega
    rw [e]
    exact q _ M _ B H h (Same.refl B) hx (.int _)
theorem dMin2 : DCall K rMin2 RMin2 := by
  intro F B M H vs ds P Q hx r hR q
  match vs, ds, r, hR with
  | _, [.int i, .int j], .cons (.int _) (.cons (.int _) .nil), h =>
    refine ⟨i, j, rfl, ?_⟩
    have e : (if j < i then j else i) = min i j := by omega
    rw [e]
    exact q _ M _ B H h (Same.refl B) hx (.int _)
/-- sorted of a list of ints: a new list -/
def RSortedI : DA := fun ds M P => ∃ ns : List Int, ds = [.lst (ns.map D.int)] ∧ ∀ (ns' : List Int) (p : Addr), ns'.Perm ns → ns'.Pairwise (· ≤ ·) → P (.raw (.ref p)) ((p, .lst (ns'.map D.int)) :: M)
theorem dSortedI : DCall K (rSortedI K) RSortedI := by
  intro F B M H vs ds P Q hx r hR q
  obtain ⟨ns, rfl, h⟩ := hR
  match r with
  | .cons (.lst a rs) .nil =>
    have e := rs.intsOf
    subst e
    exact ⟨_, ns, rfl, SqL.of (hx.fr _ _ a), fun ns' p h1 h2 hp => q _ _ _ B _ (h ns' p h1 h2) (Same.refl B) (hx.alloc hp (.lst (Reps.ints _))) (.raw _)⟩
/-- sum -/
def RSumI : DA := fun ds M P => ∃ ns : List Int, ds = [.lst (ns.map D.int)] ∧ P (.int ns.sum) M
theorem dSumI : DCall K (rSum K) RSumI := by
  intro F B M H vs ds P Q hx r hR q
  obtain ⟨ns, rfl, h⟩ := hR
  match r with
  | .cons (.lst a rs) .nil =>
    have e := rs.intsOf
    subst e
    exact ⟨_, ns, rfl, SqL.of (hx.fr _ _ a), q _ M _ B H h (Same.refl B) hx (.int _)⟩
/-- int(n), int(b) -/
def rInt1 : List V → Hp → VK → Prop := fun xs H Q => (∃ i, xs = [.int i] ∧ Q (.int i) H) ∨ ∃ k, xs = [.bl k] ∧ Q (.int (if k then 1 else 0)) H
def RInt1 : DA := fun ds M P => match ds with
  | [.int i] => P (.int i) M
  | [.bl b] => P (.int (if b then 1 else 0)) M
  | _ => False
theorem dInt1 : DCall K rInt1 RInt1 := by
  intro F B M H vs ds P Q hx r hR q
  match vs, ds, r, hR with
  | _, [.int i], .cons (.int _) .nil, h => exact .inl ⟨i, rfl, q _ M _ B H h (Same.refl B) hx (.int _)⟩
  | _, [.bl b], .cons (.bl _) .nil, h => exact .inr ⟨b, rfl, q _ M _ B H h (Same.refl B) hx (.int _)⟩
/-- list(x): a new list -/
def rListOf (K : PySem.W.Frag) : List V → Hp → VK → Prop := fun xs H Q => ∃ p ys, xs = [.ref p] ∧ (SqL K H p ys ∨ SqT K H p ys) ∧ ∀ l, H l = none → Q (.ref l) (L2.upd H l (.lst ys))
def RListOf : DA := fun ds M P => match ds with
  | [.lst l] => ∀ p, P (.raw (.ref p)) ((p, .lst l) :: M)
  | [.tup l] => ∀ p, P (.raw (.ref p)) ((p, .lst l) :: M)
  | [.raw (.ref a)] => ∃ (k : Nat) (l : List D), M[k]? = some (a, MO.lst l) ∧ ∀ p, P (.raw (.ref p)) ((p, .lst l) :: M)
  | _ => False
theorem dListOf : DCall K (rListOf K) RListOf := by
  intro F B M H vs ds P Q hx r hR q
  match vs, ds, r, hR with
  | _, [.lst l], .cons (.lst a rs) .nil, h => exact ⟨_, _, rfl, .inl (SqL.of (hx.fr _ _ a)), fun p hp => q _ _ _ B _ (h p) (Same.refl B) (hx.alloc hp (.lst rs)) (.raw _)⟩
  | _, [.tup l], .cons (.tup a rs) .nil, h => exact ⟨_, _, rfl, .inr ((tupAt_mono hx.fr a).sq), fun p hp => q _ _ _ B _ (h p) (Same.refl B) (hx.alloc hp (.lst rs)) (.raw _)⟩
  | _, [.raw (.ref p)], .cons (.raw _) .nil, ⟨k, l, h1, h2⟩ =>
    obtain ⟨o, a1, a2, _⟩ := hx.at (at_app h1)
    cases a2 with
    | lst rs => exact ⟨_, _, rfl, .inl (SqL.of a1), fun p hp => q _ _ _ B _ (h2 p) (Same.refl B) (hx.alloc hp (.lst rs)) (.raw _)⟩
/-- tuple(x) -/
def rTupOf (K : PySem.W.Frag) : List V → Hp → VK → Prop := fun xs H Q => ∃ p ys, xs = [.ref p] ∧ ((SqL K H p ys ∧ ∀ l, H l = none → Q (.ref l) (L2.upd H l (.tup ys))) ∨ (SqT K H p ys ∧ Q (.ref p) H))
def RTupOf : DA := fun ds M P => match ds with
  | [.lst l] => P (.tup l) M
  | [.tup l] => P (.tup l) M
  | [.raw (.ref a)] => ∃ (k : Nat) (l : List D), M[k]? = some (a, MO.lst l) ∧ P (.tup l) M
  | _ => False
theorem dTupOf : DCall K (rTupOf K) RTupOf := by
  intro F B M H vs ds P Q hx r hR q
  have fin : ∀ {p : Addr} {xs : List V} {l : List D}, Reps K B xs l → P (.tup l) M → H p = none → Q (.ref p) (L2.upd H p (.tup xs)) := fun {p xs l} rs h hp => by
    have s : Same B (L2.upd B p (.tup xs)) := Same.upd (hx.free hp)
    exact q _ M _ _ _ h s (hx.new hp) (.tup (.inl upd_same) (rs.mono s))
  match vs, ds, r, hR with
  | _, [.lst l], .cons (.lst a rs) .nil, h => exact ⟨_, _, rfl, .inl ⟨SqL.of (hx.fr _ _ a), fun p hp => fin rs h hp⟩⟩
  | _, [.tup l], .cons (.tup a rs) .nil, h => exact ⟨_, _, rfl, .inr ⟨(tupAt_mono hx.fr a).sq, q _ M _ B H h (Same.refl B) hx (.tup a rs)⟩⟩
  | _, [.raw (.ref p)], .cons (.raw _) .nil, ⟨k, l, h1, h2⟩ =>
    obtain ⟨o, a1, a2, _⟩ := hx.at (at_app h1)
    cases a2 with
    | lst rs => exact ⟨_, _, rfl, .inl ⟨SqL.of a1, fun p hp => fin rs h2 hp⟩⟩
/-- str(n) -/
def rStrI : List V → Hp → VK → Prop := fun xs H Q => ∃ i, xs = [.int i] ∧ i.natAbs.log2 < 1920 ∧ Q (.str (toString i)) H
def RStrI : DA := fun ds M P => match ds with
  | [.int i] => i.natAbs.log2 < 1920 ∧ P (.str (toString i)) M
  | _ => False
theorem dStrI : DCall K rStrI RStrI := by
  intro F B M H vs ds P Q hx r hR q
  match vs, ds, r, hR with
  | _, [.int i], .cons (.int _) .nil, h => exact ⟨i, rfl, h.1, q _ M _ B H h.2 (Same.refl B) hx (.str _)⟩
/-- isinstance(x, T), isinstance(x, (T, U)) of built-in classes -/
def D.ty : D → Option String
  | .non => some "NoneType" | .bl _ => some "bool" | .int _ => some "int" | .str _ => some "str" | .tup _ => some "tuple" | .lst _ => some "list" | _ => none
theorem tyX_of {B H : Hp} {x : V} {d : D} {t : String} (s : Same B H) (r : Rep K B x d) (h : d.ty = some t) : TyX K H x (.type t) := by
  cases r with
  | non => cases h; exact .base .non
  | bl b => cases h; exact .base (.bl b)
  | int i => cases h; exact .base (.int i)
  | str x => cases h; exact .base (.str x)
  | tup a _ =>
    cases h
    rcases a with a | ⟨o, its, n, a1, a2, _⟩
    · exact .base (.tup (s _ _ a))
    · exact .kTuple a1 a2
  | lst a _ => cases h; exact .base (.lst (s _ _ a))
  | scr a => cases h
  | raw v => cases h
def rIsiA (K : PySem.W.Frag) : List V → Hp → VK → Prop := fun xs H Q => rIsi K xs H Q ∨ rIsiT K xs H Q
theorem call_isiA {X : Cx} : CallR X (.builtin "isinstance") (rIsiA X.K) := call_isi.or call_isiT
def anyB (t : String) : List String → Option Bool
  | [] => some false
  | n :: ns => match kitB t n with
    | some true => some true
    | some false => anyB t ns
    | none => none
def tyNames : List D → Option (List String)
  | [] => some []
  | .raw (.ty n) :: l => (tyNames l).map (n :: ·)
  | _ => none
/-- the type of a value, a list that may change among them -/
def D.tyM (d : D) (M : Mem) (t : String) : Prop := d.ty = some t ∨ (t = "list" ∧ ∃ (p : Addr) (k : Nat) (l : List D), d = .raw (.ref p) ∧ M[k]? = some (p, MO.lst l))
theorem tyM_of {F M : Mem} {B H : Hp} {x : V} {d : D} {t : String} (hx : Holds K B (M ++ F) H) (r : Rep K B x d) (h : d.tyM M t) : TyX K H x (.type t) := by
  rcases h with h | ⟨rfl, p, k, l, rfl, h⟩
  · exact tyX_of hx.fr r h
  · cases r
    obtain ⟨o, a1, a2, _⟩ := hx.at (at_app h)
    cases a2 with
    | lst rs => exact .base (.lst a1)
def RIsi : DA := fun ds M P => ∃ (x c : D) (t : String) (b : Bool), ds = [x, c] ∧ x.tyM M t ∧ P (.bl b) M ∧
  ((∃ n, c = .raw (.ty n) ∧ kitB t n = some b) ∨ ∃ l ns, c = .tup l ∧ tyNames l = some ns ∧ anyB t ns = some b)
theorem kitAny_of {t : String} : ∀ {ns : List String} {b : Bool}, anyB t ns = some b → PySem.W.kitAny K (.type t) (ns.map Value.type) = some b
  | [], b, h => by cases h; exact kitAny_nil
  | n :: ns, b, h => by
    unfold anyB at h
    cases e : kitB t n with
    | none => rw [e] at h; cases h
    | some k =>
      rw [e] at h
      rw [List.map_cons]
      cases k with
      | true =>
        cases h
        exact kitAny_cons (r := true) (kit_ty e) (fun z => nomatch z) fun _ => rfl
      | false => exact kitAny_cons (kit_ty e) (fun _ => kitAny_of h) fun z => nomatch z
theorem names_of {B : Hp} : ∀ {vs : List V} {ds : List D} {ns : List String}, Reps K B vs ds → tyNames ds = some ns → Paired ClsV vs (ns.map Value.type) ∧ vs = ns.map V.ty
  | _, [], ns, .nil, h => by cases h; exact ⟨.nil, rfl⟩
  | _, d :: ds, ns, .cons r rs, h => by
    unfold tyNames at h
    split at h
    · rename_i n l e
      cases e
    · rename_i n l e
      cases e
      cases r
      cases e2 : tyNames ds with
      | none => rw [e2] at h; cases h
      | some ms =>
        rw [e2] at h
        cases h
        obtain ⟨h1, h2⟩ := names_of rs e2
        exact ⟨.cons (.ty n) h1, by rw [h2] <;> rfl⟩
    · cases h
theorem ty_vals : ∀ {ns : List String} {us : List Value}, Vals (ns.map V.ty) us → us = ns.map Value.type
  | [], _, .nil => rfl
  | n :: ns, _, .cons r t => by
    cases (show _ = Value.type n from r)
    rw [ty_vals t] <;> rfl
def rIsiB (K : PySem.W.Frag) : List V → Hp → VK → Prop := fun xs H Q => rIsiA K xs H Q ∨ rIsiK K xs H Q
theorem call_isiB {X : Cx} : CallR X (.builtin "isinstance") (rIsiB X.K) := call_isiA.or call_isiK
theorem dIsi : DCall K (rIsiB K) RIsi := by
  intro F B M H vs ds P Q hx r hR q
  obtain ⟨x, c, t, b, rfl, h1, h2, h3⟩ := hR
  match r with
  | .cons r1 (.cons r2 .nil) =>
    have fin := q _ M _ B H h2 (Same.refl B) hx (.bl b)
    have ty := tyM_of hx r1 h1
    rcases h3 with ⟨n, rfl, e⟩ | ⟨l, ns, rfl, e1, e2⟩
    · cases r2
      exact .inl (.inl ⟨_, _, _, _, b, rfl, .ty n, ty, kit_ty e, fin⟩)
    · cases r2 with
      | tup a rs =>
        obtain ⟨g1, g2⟩ := names_of rs e1
        rcases a with a | ⟨o, its, n, a1, a2, a3, a4, a5⟩
        · exact .inl (.inr ⟨_, _, _, _, _, b, rfl, hx.fr _ _ a, g1, ty, kitAny_of e2, fin⟩)
        · subst g2
          have e5 := ty_vals a5
          obtain ⟨oc, od, dt, sl⟩ := o
          simp only at a2 a3
          subst a2 a3
          have e6 : its = (ns.map Value.type).toArray := by rw [← e5]
          subst e6
          exact .inr ⟨_, _, _, _, _, _, _, b, rfl, a1, ty, kitAny_of e2, fin⟩
end
end Dl
namespace Dl
open PySem PySem.Spec PyProof.Rows L2

/-! ### calls of the text's own defs -/
def spD (K : PySem.W.Frag) (S : DA) : Sp := fun vs H Q _ => ∃ (F : Mem) (B : Hp) (M : Mem) (ds : List D), Reps K B vs ds ∧ Holds K B (M ++ F) H ∧ S ds M fun d M' => ∀ v B' H', Same B B' → Holds K B' (M' ++ F) H' → Rep K B' v d → Q v H'
def DMono (S : DA) : Prop := ∀ ds M (P P' : D → Mem → Prop), (∀ d M', P d M' → P' d M') → S ds M P → S ds M P'
def DLen (S : DA) (n : Nat) : Prop := ∀ ds M (P : D → Mem → Prop), S ds M P → ds.length = n
/-- the def named x does what S says, within k calls -/
structure Gd (P : Program) (w : World) (K : PySem.W.Frag) (mg : Str → Option Value) (base : Heap) (x : Str) (k : Nat) (ps : List Str) (S : DA) : Prop where
  ex : ∃ (f : Addr) (fd : FuncData), FnOk P w K mg base CX0 k f fd ps (spD K S) ∧ mg x = some (.ref f) ∧ PySem.W.keepIn K (.ref f) = true ∧ Binds K fd ps []
  mono : DMono S
def D.scal : D → Bool
  | .non => true | .bl _ => true | .int _ => true | .str _ => true | _ => false
theorem Rep.scal {K : PySem.W.Frag} {B B' : Hp} {v : V} {d : D} (h : d.scal = true) (r : Rep K B v d) : Rep K B' v d := by
  cases r <;> first | (simp [D.scal] at h; done) | constructor
section
variable {X : Cx} {N : List Str} {sc : Scope} {ρ ρ' : Rho} {M : Mem} {P P' : D → Mem → Prop} {e a b c o : Expr} {es : List Expr} {pos : Pos}
theorem EM.call {x : Str} {k j : Nat} {ps : List Str} {S : DA} {p : Pos} (c : Ctx X N sc) (hr : Room j X.A) (G : Gd X.prog X.w X.K X.mg X.base x k ps S) (h : AM X (e :: es) ρ M fun ds M1 => S ds M1 P) (hk : k ≤ j := by decide)
    (hg : glB sc x = true := by decide +kernel) (hdb : (x == ("__debug__" : Str)) = false := by decide +kernel)
    (he : starEach (e :: es) X.env = (false, eval e X.env) :: starEach es X.env := by rfl) (hpl : (backTo pos (starEach es X.env)).any (·.1) = false := by rfl) : EM X (.Call (.Name x p) (e :: es) [] pos) ρ M P := ⟨fun F σ B H hρ hx Q q => by
  obtain ⟨f, fd, g, hm, hkp, hb⟩ := G.ex
  refine WE.of (pe_call g (hr.mono hk) (c.gl x hg) hm hkp hb .nil pass0 WA.pa hdb he hpl) (h F σ B H hρ hx _ fun ds M1 vs B1 H1 h1 s1 x1 r1 => ?_)
  show spD X.K S (vs ++ []) H1 Q E0
  rw [List.append_nil]
  exact ⟨F, B1, M1, ds, r1, x1, G.mono ds M1 _ _ (fun d M' p v B' H' s x r => q d M' v B' H' p (s1.trans s) x r) h1⟩⟩
/-- a call that is lent lists that may change, and hands back a bare value -/
theorem EM.callL {x : Str} {k j : Nat} {ps : List Str} {S : DA} {p : Pos} (c : Ctx X N sc) (hr : Room j X.A) (G : Gd X.prog X.w X.K X.mg X.base x k ps S) (h : AM X (e :: es) ρ M fun ds M1 => ∃ ds', Lents M1 ds ds' ∧ S ds' [] fun d M' => M' = [] ∧ d.scal = true ∧ P d M1) (hk : k ≤ j := by decide)
    (hg : glB sc x = true := by decide +kernel) (hdb : (x == ("__debug__" : Str)) = false := by decide +kernel)
    (he : starEach (e :: es) X.env = (false, eval e X.env) :: starEach es X.env := by rfl) (hpl : (backTo pos (starEach es X.env)).any (·.1) = false := by rfl) : EM X (.Call (.Name x p) (e :: es) [] pos) ρ M P := ⟨fun F σ B H hρ hx Q q => by
  obtain ⟨f, fd, g, hm, hkp, hb⟩ := G.ex
  refine WE.of (pe_call g (hr.mono hk) (c.gl x hg) hm hkp hb .nil pass0 WA.pa hdb he hpl) (h F σ B H hρ hx _ fun ds M1 vs B1 H1 ⟨ds', hl, h1⟩ s1 x1 r1 => ?_)
  show spD X.K S (vs ++ []) H1 Q E0
  rw [List.append_nil]
  refine ⟨[], _, [], ds', hl.rep x1 r1, x1.shut, G.mono ds' [] _ _ (fun d M' ⟨e1, e2, p⟩ v B' H' s x r => ?_) h1⟩
  exact q d M1 v B1 H' p s1 (x1.reopen s x.fr) (r.scal e2)⟩
/-- o.f of an instance -/
theorem EM.fld {f : Str} (h : EM X o ρ M fun d M1 => ∃ (p : Addr) (k : Nat) (C : Addr) (fs : List (Str × D)) (z : D), d = .raw (.ref p) ∧ M1[k]? = some (p, MO.ins C fs) ∧ Cls X.K C ∧ NoAttr X.K C f ∧ fs.lookup f = some z ∧ P z M1)
    (hb : attributeBase o f X.env (eval o X.env) = eval o X.env := by rfl) : EM X (.Attribute o f pos) ρ M P := ⟨fun F σ B H hr hx Q q =>
  WE.of (pe_fld WE.pe hb) (h F σ B H hr hx _ fun d M1 v B1 H1 ⟨p, k, C, fs, z, e1, e2, e3, e4, e5, h1⟩ s1 x1 r1 => by
    subst e1
    cases r1
    obtain ⟨ob, a1, a2, _⟩ := x1.at (at_app e2)
    cases a2 with
    | ins rf =>
      obtain ⟨v, b1, b2⟩ := rf.look e5
      exact ⟨p, C, _, _, v, rfl, a1, e3, e4, b1, q z M1 v B1 H1 h1 s1 x1 b2⟩)⟩
/-! ### what is walked -/
structure Yields (K : PySem.W.Frag) (J : It) (B1 : Hp) (l : List D) : Prop where
  go : ∀ i H', Same B1 H' → i < l.length → J.go i H'
  stop : ∀ H', Same B1 H' → J.stop l.length H'
  yld : ∀ i H' x H'', Same B1 H' → i < l.length → J.yld i H' x H'' → H'' = H' ∧ ∃ d, l[i]? = some d ∧ Rep K B1 x d
structure IW (X : Cx) (tg iter : Expr) (ρ : Rho) (M : Mem) (P : List D → Mem → Prop) : Prop where
  ex : ∃ wi, PI X tg iter wi ∧ ∀ (F : Mem) (σ : L2.St) (B H : Hp), EnvRep X.K B σ ρ → Holds X.K B (M ++ F) H → ∀ R : It → Hp → Prop,
  (∀ l J M1 B1 H1, P l M1 → Same B B1 → Holds X.K B1 (M1 ++ F) H1 → Yields X.K J B1 l → R J H1) → wi σ H R
theorem IW.list {tg : Expr} {P : List D → Mem → Prop} (h : EM X e ρ M fun d M1 => ∃ l, d = .lst l ∧ P l M1) : IW X tg e ρ M P := ⟨_, pi_list WE.pe, fun F σ B H hr hx R q => h F σ B H hr hx _ fun d M1 v B1 H1 ⟨l, e1, h1⟩ s x r => by
  subst e1
  cases r with
  | @lst a xs _ h2 rs =>
    refine ⟨a, rfl, ⟨xs, SqL.of (x.fr _ _ h2)⟩, q l _ M1 B1 H1 h1 s x ⟨fun i H' s' hi => ?_, fun H' s' => ⟨xs, SqL.of (s' _ _ h2), by rw [rs.length] <;> exact Nat.le_refl _⟩, fun i H' y H'' s' hi hy => ?_⟩⟩
    · obtain ⟨v, b1, _⟩ := rs.get (i := i) (d := l[i]) (by simp [hi])
      exact ⟨xs, v, SqL.of (s' _ _ h2), b1⟩
    · obtain ⟨e1, e2⟩ := hy
      obtain ⟨d, b1, b2⟩ := rs.get' (e2 xs (SqL.of (s' _ _ h2)))
      exact ⟨e1, d, b1, b2⟩⟩
theorem IW.tup {tg : Expr} {P : List D → Mem → Prop} (h : EM X e ρ M fun d M1 => ∃ l, d = .tup l ∧ P l M1) : IW X tg e ρ M P := ⟨_, pi_tup WE.pe, fun F σ B H hr hx R q => h F σ B H hr hx _ fun d M1 v B1 H1 ⟨l, e1, h1⟩ s x r => by
  subst e1
  cases r with
  | @tup a xs _ h2 rs =>
    have h3 : ∀ H', Same B1 H' → SqT X.K H' a xs := fun H' s' => (tupAt_mono s' h2).sq
    refine ⟨a, rfl, ⟨xs, h3 _ x.fr⟩, q l _ M1 B1 H1 h1 s x ⟨fun i H' s' hi => ?_, fun H' s' => ⟨xs, h3 _ s', by rw [rs.length] <;> exact Nat.le_refl _⟩, fun i H' y H'' s' hi hy => ?_⟩⟩
    · obtain ⟨v, b1, _⟩ := rs.get (i := i) (d := l[i]) (by simp [hi])
      exact ⟨xs, v, h3 _ s', b1⟩
    · obtain ⟨e1, e2⟩ := hy
      obtain ⟨d, b1, b2⟩ := rs.get' (e2 xs (h3 _ s'))
      exact ⟨e1, d, b1, b2⟩⟩
def rngD (lo : Int) (n : Nat) : List D := (List.range n).map fun k => .int (lo + (k : Nat))
theorem rngD_length (lo : Int) (n : Nat) : (rngD lo n).length = n := by unfold rngD; rw [List.length_map, List.length_range]
theorem rngD_get {lo : Int} {n i : Nat} (h : i < n) : (rngD lo n)[i]? = some (.int (lo + (i : Nat))) := by
  unfold rngD
  rw [List.getElem?_map, List.getElem?_range h] <;> rfl
theorem yields_rng {K : PySem.W.Frag} {B1 : Hp} (lo : Int) (n : Nat) : Yields K (Itr lo n) B1 (rngD lo n) :=
  ⟨fun i H' _ hi => by rw [rngD_length] at hi; exact hi, fun H' _ => by rw [rngD_length]; exact Nat.le_refl _, fun i H' x H'' _ hi hy => by
    obtain ⟨e1, e2⟩ := hy
    subst e2
    rw [rngD_length] at hi
    exact ⟨e1, _, rngD_get hi, .int _⟩⟩
theorem IW.range1 {tg : Expr} {P : List D → Mem → Prop} {p : Pos} (c : Ctx X N sc) (hm : X.mg "range" = none) (h : AM X [e] ρ M fun ds M1 => ∃ j : Int, ds = [.int j] ∧ (-(2 ^ 62) ≤ j ∧ j < 2 ^ 62) ∧ P (rngD 0 j.toNat) M1)
    (hg : glB sc "range" = true := by decide +kernel) (hs : starEach [e] X.env = [(false, eval e X.env)] := by rfl) : IW X tg (.Call (.Name "range" p) [e] [] pos) ρ M P := ⟨_, pi_range1 (c.gl _ hg) hm WA.pa hs, fun F σ B H hr hx R q => h F σ B H hr hx _ fun ds M1 vs B1 H1 ⟨j, e1, ⟨h1, h2⟩, h3⟩ s x r => by
  subst e1
  match r with
  | .cons (.int _) .nil => exact ⟨j, rfl, h1, h2, q _ _ M1 B1 H1 h3 s x (yields_rng 0 _)⟩⟩
theorem IW.range2 {tg : Expr} {P : List D → Mem → Prop} {p : Pos} (c : Ctx X N sc) (hm : X.mg "range" = none) (h : AM X [a, b] ρ M fun ds M1 => ∃ i j : Int, ds = [.int i, .int j] ∧ (-(2 ^ 62) ≤ i ∧ i < 2 ^ 62 ∧ -(2 ^ 62) ≤ j ∧ j < 2 ^ 62) ∧ P (rngD i (j - i).toNat) M1)
    (hg : glB sc "range" = true := by decide +kernel) (hs : starEach [a, b] X.env = [(false, eval a X.env), (false, eval b X.env)] := by rfl) (hs2 : starEach [b] X.env = [(false, eval b X.env)] := by rfl) : IW X tg (.Call (.Name "range" p) [a, b] [] pos) ρ M P := ⟨_, pi_range2 (c.gl _ hg) hm WA.pa hs hs2, fun F σ B H hr hx R q => h F σ B H hr hx _ fun ds M1 vs B1 H1 ⟨i, j, e1, h1, h3⟩ s x r => by
  subst e1
  match r with
  | .cons (.int _) (.cons (.int _) .nil) => exact ⟨i, j, rfl, h1, q _ _ M1 B1 H1 h3 s x (yields_rng i _)⟩⟩

/-! ### targets -/
def WG (X : Cx) (tg : Expr) : TG := fun v σ H Q => ∀ (pins : List (Addr × Obj)) (s : Shared) (u : Value), Inv X pins σ H s → RelV v u → wpAny (model X.prog X.w) X.A (assign tg X.env u) (fun _ s' => ∃ σ' H', Inv X pins σ' H' s' ∧ Q σ' H') X.xe s
theorem WG.pg {X : Cx} {tg : Expr} : PG X tg (WG X tg) := ⟨fun pins s σ H v u Q I r h => h pins s u I r⟩
theorem WG.of {X : Cx} {tg : Expr} {g : TG} {v : V} {σ : L2.St} {H : Hp} {Q : L2.St → Hp → Prop} (p : PG X tg g) (h : g v σ H Q) : WG X tg v σ H Q := fun pins s u I r => p.run pins s σ H v u Q I r h
/-- only these names' slots are stored -/
def Only (N : List Str) (xs : List Str) (σ σ' : L2.St) : Prop := ∀ vs : List Nat, (∀ x ∈ xs, ∀ i, N[i]? = some x → i ∈ vs) → wipe σ' vs = wipe σ vs
theorem wipe_set {v : Option V} : ∀ {vs : List Nat} {σ : L2.St} {i : Nat}, i ∈ vs → wipe (σ.set i v) vs = wipe σ vs
  | j :: vs, σ, i, h => by
    show (wipe (σ.set i v) vs).set j none = (wipe σ vs).set j none
    by_cases hv : i ∈ vs
    · rw [wipe_set hv]
    · have e : i = j := by
        rcases List.mem_cons.mp h with q | q
        · exact q
        · exact absurd q hv
      subst e
      have comm : ∀ {ws : List Nat} {τ : L2.St}, i ∉ ws → wipe (τ.set i v) ws = (wipe τ ws).set i v := fun {ws} => by
        induction ws with
        | nil => intro τ _; rfl
        | cons k ws ih =>
          intro τ hk
          show (wipe (τ.set i v) ws).set k none = ((wipe τ ws).set k none).set i v
          rw [ih (fun z => hk (List.mem_cons_of_mem _ z)), List.set_comm _ _ (fun z => hk (by rw [z]; exact List.mem_cons_self))]
      rw [comm hv, List.set_set]
structure GM (X : Cx) (N : List Str) (tg : Expr) (xs : List Str) (d : D) (ρ ρ' : Rho) : Prop where
  run : ∀ (σ : L2.St) (B H : Hp) (M : Mem) (v : V), EnvRep X.K B σ ρ → Holds X.K B M H → Rep X.K B v d → ∀ Q : L2.St → Hp → Prop, (∀ σ', EnvRep X.K B σ' ρ' → Only N xs σ σ' → Q σ' H) → WG X tg v σ H Q
instance {X : Cx} {N : List Str} {tg : Expr} {xs : List Str} {d : D} {ρ ρ' : Rho} : CoeFun (GM X N tg xs d ρ ρ') (fun _ => ∀ (σ : L2.St) (B H : Hp) (M : Mem) (v : V), EnvRep X.K B σ ρ → Holds X.K B M H → Rep X.K B v d → ∀ Q : L2.St → Hp → Prop, (∀ σ', EnvRep X.K B σ' ρ' → Only N xs σ σ' → Q σ' H) → WG X tg v σ H Q) := ⟨GM.run⟩
theorem GM.name {x : Str} {d : D} (c : Ctx X N sc) (h : Put N ρ x (some d) ρ') (hl : locB sc x = true := by decide +kernel) : GM X N (.Name x pos) [x] d ρ ρ' := ⟨fun σ B H M v hr hx r Q q => by
  obtain ⟨i, h1, h2⟩ := h.ix
  obtain ⟨h3, h4⟩ := c.sto x hl
  refine WG.of (pg_name (i := i) (by rw [c.nm]; exact c.nd) (by rw [c.nm]; exact h1) h3 h4) ?_
  show Q (σ.set i (some v)) H
  refine q _ (by rw [h2]; exact hr.set r) fun vs hv => wipe_set (hv x List.mem_cons_self i h1)⟩
/-- several, from a tuple's items -/
def WGs (X : Cx) (ts : List Expr) : TGs := fun vs σ H Q => ∀ (pins : List (Addr × Obj)) (s : Shared) (us : List Value), Inv X pins σ H s → Vals vs us → wpAny (model X.prog X.w) X.A (assignInOrder ((assignEach ts X.env).map (·.2)) us) (fun _ s' => ∃ σ' H', Inv X pins σ' H' s' ∧ Q σ' H') X.xe s
theorem WGs.pgs {X : Cx} {ts : List Expr} : PGs X ts (WGs X ts) := ⟨fun pins s σ H v u Q I r h => h pins s u I r⟩
theorem WGs.of {X : Cx} {tg : List Expr} {g : TGs} {v : List V} {σ : L2.St} {H : Hp} {Q : L2.St → Hp → Prop} (p : PGs X tg g) (h : g v σ H Q) : WGs X tg v σ H Q := fun pins s u I r => p.run pins s σ H v u Q I r h
structure GMs (X : Cx) (N : List Str) (ts : List Expr) (xs : List Str) (ds : List D) (ρ ρ' : Rho) : Prop where
  run : ∀ (σ : L2.St) (B H : Hp) (M : Mem) (vs : List V), EnvRep X.K B σ ρ → Holds X.K B M H → Reps X.K B vs ds → ∀ Q : L2.St → Hp → Prop, (∀ σ', EnvRep X.K B σ' ρ' → Only N xs σ σ' → Q σ' H) → WGs X ts vs σ H Q
instance {X : Cx} {N : List Str} {ts : List Expr} {xs : List Str} {ds : List D} {ρ ρ' : Rho} : CoeFun (GMs X N ts xs ds ρ ρ') (fun _ => ∀ (σ : L2.St) (B H : Hp) (M : Mem) (vs : List V), EnvRep X.K B σ ρ → Holds X.K B M H → Reps X.K B vs ds → ∀ Q : L2.St → Hp → Prop, (∀ σ', EnvRep X.K B σ' ρ' → Only N xs σ σ' → Q σ' H) → WGs X ts vs σ H Q) := ⟨GMs.run⟩
theorem GMs.nil : GMs X N [] [] [] ρ ρ := ⟨fun σ B H M vs hr hx r Q q => by
  cases r
  exact WGs.of pgs_nil ⟨rfl, q σ hr fun _ _ => rfl⟩⟩
theorem GMs.cons {ts : List Expr} {xs ys : List Str} {d : D} {ds : List D} {ρ'' : Rho} (h : GM X N e xs d ρ ρ') (h2 : GMs X N ts ys ds ρ' ρ'') (hs : (assignEach (e :: ts) X.env).map (·.2) = assign e X.env :: (assignEach ts X.env).map (·.2) := by rfl) : GMs X N (e :: ts) (xs ++ ys) (d :: ds) ρ ρ'' := ⟨fun σ B H M vs hr hx r Q q => by
  cases r with
  | cons r rs =>
    refine WGs.of (pgs_cons WG.pg WGs.pgs hs) ⟨_, _, rfl, h σ B H M _ hr hx r _ fun σ1 hr1 o1 => h2 σ1 B H M _ hr1 hx rs _ fun σ2 hr2 o2 => q σ2 hr2 fun ws hw => ?_⟩
    rw [o2 ws fun x hx => hw x (List.mem_append_right _ hx), o1 ws fun x hx => hw x (List.mem_append_left _ hx)]⟩
theorem GM.tup {ts : List Expr} {xs : List Str} {ds : List D} {k : _} (c : Ctx X N sc) (h : GMs X N ts xs ds ρ ρ') (hn : (assignEach ts X.env).length = ds.length := by rfl) (hst : (assignEach ts X.env).findIdx? (·.1) = none := by rfl) : GM X N (.Tuple ts k pos) xs (.tup ds) ρ ρ' := ⟨fun σ B H M v hr hx r Q q => by
  cases r with
  | tup a rs => exact WG.of (pg_tup c.calm WGs.pgs hn hst) ⟨_, _, rfl, (tupAt_mono hx.fr a).sq, rs.length, h σ B H M _ hr hx rs Q q⟩⟩
end
end Dl
namespace Dl
open PySem PySem.Spec PyProof.Rows L2

/-! ### comprehensions -/
def ownOf (N : List Str) (xs : List Str) : List (Str × Nat) := xs.map fun x => (x, N.idxOf x)
def chk (N : List Str) (sc scope : Scope) (xs : List Str) : Bool := blkC N sc scope (ownOf N xs)
/-- the block's own names forgotten -/
inductive Wp (N : List Str) : Rho → List Str → Rho → Prop
  | nil {ρ : Rho} : Wp N ρ [] ρ
  | cons {ρ ρ1 ρ2 : Rho} {x : Str} {xs : List Str} : Wp N ρ xs ρ1 → Put N ρ1 x none ρ2 → Wp N ρ (x :: xs) ρ2
abbrev Bk (X : Cx) (scope : Scope) (s : Shared) (H : Hp) (C : Addr) (cl : List (Str × Addr)) (fp : List Addr) : Cx := X.blk s H scope (compEnvC scope cl C X.env) fp
section
variable {X : Cx} {N : List Str} {sc scope : Scope} {ρ ρ' ρw : Rho} {M : Mem} {P P' : D → Mem → Prop} {e a b c o elt tg iter : Expr} {es : List Expr} {xs : List Str} {pos : Pos}
theorem chk_ok (c : Ctx X N sc) (h : chk N sc scope xs = true) : BlkOk X.N X.env.scope scope (ownOf N xs) := by
  have k := blkOk_by h
  refine ⟨k.kind, k.uniq, by rw [c.nm]; exact k.ix, fun y hy e => ?_, by rw [c.nm]; exact k.own⟩
  refine c.cf y.1 ?_
  unfold cfB
  rcases k.free y hy e with q | q <;> rw [q]
theorem idx_of {N : List Str} (nd : N.Nodup) {i : Nat} {x : Str} (h : N[i]? = some x) : N.idxOf x = i := by
  obtain ⟨h1, h2⟩ := List.getElem?_eq_some_iff.mp h
  subst h2
  exact List.Nodup.idxOf_getElem nd i h1
theorem wp_rep (nd : N.Nodup) {K : PySem.W.Frag} {B : Hp} {σ : L2.St} : ∀ {xs : List Str} {ρ ρw : Rho}, EnvRep K B σ ρ → Wp N ρ xs ρw → EnvRep K B (wipe σ ((ownOf N xs).map (·.2))) ρw
  | [], _, _, r, .nil => r
  | x :: xs, ρ, ρw, r, .cons (ρ1 := ρ1) w p => by
    have ih := wp_rep nd (xs := xs) r w
    obtain ⟨i, h1, h2⟩ := p.ix
    have e : N.idxOf x = i := idx_of nd h1
    show EnvRep K B ((wipe σ ((ownOf N xs).map (·.2))).set (N.idxOf x) none) ρw
    rw [e, h2]
    refine ⟨by rw [List.length_set, List.length_set, ih.len], fun j d q => ?_⟩
    by_cases z : i = j
    · subst z
      by_cases hl : i < ρ1.length
      · rw [List.getElem?_set_self hl] at q; cases q
      · rw [List.getElem?_eq_none (by rw [List.length_set]; omega)] at q; cases q
    · rw [List.getElem?_set_ne z] at q ⊢
      exact ih.at' j d q
theorem wipe_wipe (σ : L2.St) : ∀ vs : List Nat, wipe (wipe σ vs) vs = wipe σ vs
  | [] => rfl
  | v :: vs => by
    have h : wipe ((wipe σ vs).set v none) (v :: vs) = wipe (wipe σ vs) (v :: vs) := wipe_set List.mem_cons_self
    show wipe ((wipe σ vs).set v none) (v :: vs) = (wipe σ vs).set v none
    rw [h]
    show (wipe (wipe σ vs) vs).set v none = _
    rw [wipe_wipe σ vs]
theorem only_wipe (nd : N.Nodup) {ys : List Str} {σ σ' : L2.St} (h : Only N ys (wipe σ ((ownOf N xs).map (·.2))) σ') (hs : ∀ y ∈ ys, y ∈ xs) : wipe σ' ((ownOf N xs).map (·.2)) = wipe σ ((ownOf N xs).map (·.2)) := by
  rw [h _ fun y hy i hi => ?_, wipe_wipe]
  have e := idx_of nd hi
  subst e
  unfold ownOf
  rw [List.map_map]
  exact List.mem_map.mpr ⟨y, hs y hy, rfl⟩
def BG (X : Cx) (scope : Scope) (tg : Expr) : TG := fun v σ H Q => ∀ s H0 C cl fp, WG (Bk X scope s H0 C cl fp) tg v σ H Q
def BT (X : Cx) (scope : Scope) (e : Expr) : TT := fun σ H Q => ∀ s H0 C cl fp, WT (Bk X scope s H0 C cl fp) e σ H Q
def BE (X : Cx) (scope : Scope) (e : Expr) : TE := fun σ H Q => ∀ s H0 C cl fp, WE (Bk X scope s H0 C cl fp) e σ H Q
/-- what one turn asks: tests T, the element -/
def Turn1 (X : Cx) (N : List Str) (scope : Scope) (tg elt : Expr) (xs : List Str) (T : Rho → Mem → (Bool → Mem → Prop) → Prop) (ρw : Rho) (M : Mem) (x : D) (acc : List D) (J : List D → Mem → Prop) : Prop :=
  ∃ (ρ' : Rho) (ys : List Str), (∀ y ∈ ys, y ∈ xs) ∧ (∀ s H0 C cl fp, GM (Bk X scope s H0 C cl fp) N tg ys x ρw ρ') ∧
    T ρ' M fun b M2 => if b = true then (∀ s H0 C cl fp, EM (Bk X scope s H0 C cl fp) elt ρ' M2 fun y M3 => J (acc ++ [y]) M3) else J acc M2
theorem lcRead {wi : TI} {tt : TT} {T : Rho → Mem → (Bool → Mem → Prop) → Prop} (nd : N.Nodup)
    (hT : ∀ ρ M P, T ρ M P → ∀ (F : Mem) (σ : L2.St) (B H : Hp), EnvRep X.K B σ ρ → Holds X.K B (M ++ F) H → ∀ Q : Bool → Hp → Prop, (∀ b M' B' H', P b M' → Same B B' → Holds X.K B' (M' ++ F) H' → Q b H') → tt σ H Q)
    {F : Mem} {σ : L2.St} {B H : Hp} (hr : EnvRep X.K B σ ρ) (hw : Wp N ρ xs ρw)
    (hi : ∀ R : It → Hp → Prop, (∀ l J M1 B1 H1, (l.length ≤ sizeLine ∧ ∃ I : Nat → List D → Mem → Prop, I 0 [] M1 ∧
        (∀ i x acc M', l[i]? = some x → I i acc M' → Turn1 X N scope tg elt xs T ρw M' x acc (I (i + 1))) ∧ ∀ acc M' p, I l.length acc M' → P (.raw (.ref p)) ((p, .lst acc) :: M')) → Same B B1 → Holds X.K B1 (M1 ++ F) H1 → Yields X.K J B1 l → R J H1) → wi σ H R)
    {Q : VK} (q : ∀ d M' v B' H', P d M' → Same B B' → Holds X.K B' (M' ++ F) H' → Rep X.K B' v d → Q v H') :
    tLc wi (BG X scope tg) tt (BE X scope elt) ((ownOf N xs).map (·.2)) σ H Q := by
  refine hi _ fun l J M1 B1 H1 ⟨hz, I, i0, turn, fin⟩ s1 x1 Y => ?_
  intro D hD
  refine ⟨fun i m H' => m = l.length - i ∧ i ≤ l.length ∧ ∃ acc M' B', I i acc M' ∧ acc.length ≤ i ∧ Same B1 B' ∧ Holds X.K B' (M' ++ ((D, .lst acc) :: F)) H', ⟨l.length, by simp, Nat.zero_le _, [], M1, B1, i0, Nat.le_refl _, Same.refl _, ?_⟩, ?_⟩
  · exact (x1.alloc hD (.lst .nil)).perm List.perm_middle
  rintro i m H' ⟨rfl, hi', acc, M', B', hI, hacc, s2, x2⟩
  have sH : Same B1 H' := s2.trans x2.fr
  by_cases hlt : i < l.length
  · refine .inr ⟨Y.go i H' sH hlt, fun H' => (i + 1 ≤ l.length ∧ ∃ acc M' B', I (i + 1) acc M' ∧ acc.length ≤ i + 1 ∧ Same B1 B' ∧ Holds X.K B' (M' ++ ((D, .lst acc) :: F)) H'), fun H'' ⟨a, b⟩ => ⟨l.length - (i + 1), by omega, rfl, a, b⟩, fun x H'' hy => ?_⟩
    obtain ⟨rfl, d, hd, rd⟩ := Y.yld i H' x H'' sH hlt hy
    obtain ⟨ρ', ys, hys, hg, ht⟩ := turn i d acc M' hd hI
    have rw1 : EnvRep X.K B' (wipe σ ((ownOf N xs).map (·.2))) ρw := wp_rep nd (hr.mono (s1.trans s2)) hw
    intro sb H0 C cl fp
    refine hg sb H0 C cl fp _ B' _ _ x rw1 x2 (rd.mono s2) _ fun σ2 r2 o2 => ⟨only_wipe nd o2 hys, ?_⟩
    refine hT ρ' M' _ ht _ σ2 B' _ r2 x2 _ fun k M2 B2 H2 hk s3 x3 => ?_
    cases k with
    | false => exact ⟨hlt, acc, M2, B2, hk, Nat.le_succ_of_le hacc, s2.trans s3, x3⟩
    | true =>
      rw [if_pos rfl] at hk ⊢
      intro sb H0 C cl fp
      refine hk sb H0 C cl fp _ σ2 B2 H2 (r2.mono s3) x3 _ fun y M3 v B3 H3 hy s4 x4 r4 => ?_
      have x5 := x4.perm (M' := (D, .lst acc) :: (M3 ++ F)) List.perm_middle.symm
      obtain ⟨ob, a1, a2, a3⟩ := x5.at (k := 0) rfl
      cases a2 with
      | @lst accV _ ra =>
        refine ⟨accV, a1, by rw [ra.length]; omega, hlt, acc ++ [y], M3, B3, hy, by rw [List.length_append, List.length_singleton]; omega, s2.trans (s3.trans s4), ?_⟩
        exact (x5.put (k := 0) (mo' := .lst (acc ++ [y])) rfl (.lst (ra.append (.cons r4 .nil)))).perm List.perm_middle
  · have e : i = l.length := by omega
    subst e
    refine .inl ⟨Y.stop H' sH, ?_⟩
    exact q _ _ _ B' H' (fin acc M' D hI) (s1.trans s2) (x2.perm (M' := ((D, .lst acc) :: M') ++ F) List.perm_middle.symm) (.raw _)
/-- no tests -/
def T0 : Rho → Mem → (Bool → Mem → Prop) → Prop := fun _ M P => P true M
/-- one test -/
def T1 (X : Cx) (scope : Scope) (t : Expr) : Rho → Mem → (Bool → Mem → Prop) → Prop := fun ρ M P => ∀ s H0 C cl fp, TM (Bk X scope s H0 C cl fp) t ρ M P
/-- what a list comprehension asks of the data that it walks -/
def LcP (X : Cx) (N : List Str) (scope : Scope) (tg elt : Expr) (xs : List Str) (T : Rho → Mem → (Bool → Mem → Prop) → Prop) (ρw : Rho) (P : D → Mem → Prop) (l : List D) (M1 : Mem) : Prop :=
  l.length ≤ sizeLine ∧ ∃ I : Nat → List D → Mem → Prop, I 0 [] M1 ∧
        (∀ i x acc M', l[i]? = some x → I i acc M' → Turn1 X N scope tg elt xs T ρw M' x acc (I (i + 1))) ∧ ∀ acc M' p, I l.length acc M' → P (.raw (.ref p)) ((p, .lst acc) :: M')
theorem EM.lcM (c : Ctx X N sc) (xs : List Str) (hw : Wp N ρ xs ρw) (h : IW X tg iter ρ M (LcP X N scope tg elt xs T0 ρw P)) (hk : chk N sc scope xs = true := by decide +kernel)
    (hs : ∀ x, foldedSetIterable iter X.env x = pure x := by intro _; rfl) : EM X (.ListComp elt [⟨tg, iter, [], 0⟩] scope pos) ρ M P := ⟨fun F σ B H hr hx Q q => by
  obtain ⟨wi, hp, hi⟩ := h
  refine WE.of (pe_lc (g := BG X scope tg) (tt := tYes) (te := BE X scope elt) c.calm (by rw [c.nm]; exact c.nd) hp (chk_ok c hk) (fun s H0 C cl fp => ⟨fun pins s' σ H' v u Q I r h => h s H0 C cl fp pins s' u I r⟩) (fun _ _ _ _ _ => pts_nil) (fun s H0 C cl fp => ⟨fun pins s' σ H' Q I h => h s H0 C cl fp pins s' I⟩) hs) ?_
  exact lcRead (tt := tYes) (T := T0) c.nd (fun ρ M P hp F σ B H hr hx Q q => q true M B H hp (Same.refl B) hx) hr hw (fun R hR => hi F σ B H hr hx R hR) q⟩
theorem EM.lcM1 {t : Expr} (c : Ctx X N sc) (xs : List Str) (hw : Wp N ρ xs ρw) (h : IW X tg iter ρ M (LcP X N scope tg elt xs (T1 X scope t) ρw P)) (hk : chk N sc scope xs = true := by decide +kernel)
    (hs : ∀ x, foldedSetIterable iter X.env x = pure x := by intro _; rfl) : EM X (.ListComp elt [⟨tg, iter, [t], 0⟩] scope pos) ρ M P := ⟨fun F σ B H hr hx Q q => by
  obtain ⟨wi, hp, hi⟩ := h
  refine WE.of (pe_lc (g := BG X scope tg) (tt := BT X scope t) (te := BE X scope elt) c.calm (by rw [c.nm]; exact c.nd) hp (chk_ok c hk) (fun s H0 C cl fp => ⟨fun pins s' σ H' v u Q I r h => h s H0 C cl fp pins s' u I r⟩) (fun s H0 C cl fp => pts_one ⟨fun pins s' σ H' Q I h => h s H0 C cl fp pins s' I⟩) (fun s H0 C cl fp => ⟨fun pins s' σ H' Q I h => h s H0 C cl fp pins s' I⟩) hs) ?_
  exact lcRead (tt := BT X scope t) (T := T1 X scope t) c.nd (fun ρ M P hp F σ B H hr hx Q q s H0 C cl fp => hp s H0 C cl fp F σ B H hr hx Q q) hr hw (fun R hR => hi F σ B H hr hx R hR) q⟩
end

/-! ### statements -/
structure S1 (X : Cx) (st : Stmt) (ρ : Rho) (M : Mem) (P : Out) : Prop where
  run : ∀ (F : Mem) (σ : L2.St) (B H : Hp), EnvRep X.K B σ ρ → Holds X.K B (M ++ F) H → ∀ Dn : Ends, Grants X.K B F P Dn → WS X st Dn σ H
instance {X : Cx} {st : Stmt} {ρ : Rho} {M : Mem} {P : Out} : CoeFun (S1 X st ρ M P) (fun _ => ∀ (F : Mem) (σ : L2.St) (B H : Hp), EnvRep X.K B σ ρ → Holds X.K B (M ++ F) H → ∀ Dn : Ends, Grants X.K B F P Dn → WS X st Dn σ H) := ⟨S1.run⟩
section
variable {X : Cx} {N : List Str} {sc scope : Scope} {ρ ρ' ρw : Rho} {M : Mem} {P : Out} {e a b c o elt tg iter : Expr} {es : List Expr} {xs : List Str} {pos : Pos} {st : Stmt} {rest body orelse : List Stmt}
theorem SM.nil (h : P.nx ρ M) : SM X [] ρ M P := ⟨fun F σ B H hr hx Dn g => WSs.of pss_nil (g.nx ρ M σ B H h (Same.refl B) hr hx)⟩
theorem SM.seq (h : S1 X st ρ M { P with nx := fun ρ1 M1 => SM X rest ρ1 M1 P }) : SM X (st :: rest) ρ M P := ⟨fun F σ B H hr hx Dn g =>
  WSs.of (pss_cons WS.ps WSs.ps) (h F σ B H hr hx { Dn with nx := WSs X rest Dn } ⟨fun ρ1 M1 σ1 B1 H1 p s r x => p F σ1 B1 H1 r x Dn (g.mono s), g.rt, g.bk, g.ct⟩)⟩
theorem SM.last (h : S1 X st ρ M P) : SM X [st] ρ M P := ⟨fun F σ B H hr hx Dn g => WSs.of (pss_one WS.ps) (h F σ B H hr hx Dn g)⟩
/-- what is known of a slot may be forgotten -/
theorem SM.forget {ρ' : Rho} (h : SM X rest ρ' M P) (hl : ρ'.length = ρ.length) (k : ∀ (i : Nat) (d : D), ρ'[i]? = some (some d) → ρ[i]? = some (some d)) : SM X rest ρ M P := ⟨fun F σ B H hr hx Dn g => h F σ B H (hr.drop hl k) hx Dn g⟩
/-- a list that may change is left alone from now on: told as data at one slot -/
theorem SM.freeze {k : Nat} {p : Addr} {l : List D} {ρ' : Rho} {x : Str} (h1 : M[k]? = some (p, MO.lst l)) (h2 : At N ρ x (.raw (.ref p))) (h3 : Put N ρ x (some (.lst l)) ρ') (h : SM X rest ρ' (M.eraseIdx k) P) (nd : N.Nodup := by decide +kernel) : SM X rest ρ M P := ⟨fun F σ B H hr hx Dn g => by
  obtain ⟨ys, a1, a2, a3, a4⟩ := hx.freeze (at_app h1)
  rw [erase_app h1] at a4
  have s := Same.upd (B := B) (o := .lst ys) a2
  obtain ⟨i, b1, b2⟩ := h2.ix
  obtain ⟨j, c1, c2⟩ := h3.ix
  have ij : i = j := nodup_at nd b1 c1
  subst ij
  obtain ⟨v, d1, d2⟩ := hr.at' i _ b2
  cases d2
  have hr' : EnvRep X.K (L2.upd B p (.lst ys)) σ ρ' := by
    have z := (hr.mono s).set (i := i) a3
    have e : σ.set i (some (.ref p)) = σ := by
      refine List.ext_getElem? fun n => ?_
      by_cases q : i = n
      · subst q
        rw [List.getElem?_set_self (List.getElem?_eq_some_iff.mp d1).1, d1]
      · rw [List.getElem?_set_ne q]
    rw [e, ← c2] at z
    exact z
  exact h F σ _ H hr' a4 Dn (g.mono s)⟩
theorem SM.drop {m : Addr × MO} (h : SM X rest ρ M P) : SM X rest ρ (m :: M) P := ⟨fun F σ B H hr hx Dn g => h F σ B H hr (hx.sub (List.sublist_cons_self _ _)) Dn g⟩
theorem SM.swap {m1 m2 : Addr × MO} (h : SM X rest ρ (m2 :: m1 :: M) P) : SM X rest ρ (m1 :: m2 :: M) P := ⟨fun F σ B H hr hx Dn g => h F σ B H hr (hx.perm (List.Perm.swap _ _ _)) Dn g⟩
theorem SM.perm {M' : Mem} (h : SM X rest ρ M' P) (k : M'.Perm M) : SM X rest ρ M P := ⟨fun F σ B H hr hx Dn g => h F σ B H hr (hx.perm (k.append_right F)) Dn g⟩
theorem SM.to {P' : Out} (h : SM X rest ρ M P) (h1 : ∀ ρ M, P.nx ρ M → P'.nx ρ M) (h2 : ∀ ρ M, P.rt ρ M → P'.rt ρ M) (h3 : ∀ ρ M, P.bk ρ M → P'.bk ρ M) (h4 : ∀ ρ M, P.ct ρ M → P'.ct ρ M) : SM X rest ρ M P' := ⟨fun F σ B H hr hx Dn g =>
  h F σ B H hr hx Dn ⟨fun _ _ _ _ _ p => g.nx _ _ _ _ _ (h1 _ _ p), fun _ _ _ _ _ p => g.rt _ _ _ _ _ (h2 _ _ p), fun _ _ _ _ _ p => g.bk _ _ _ _ _ (h3 _ _ p), fun _ _ _ _ _ p => g.ct _ _ _ _ _ (h4 _ _ p)⟩⟩
theorem S1.set {x : Str} {pos' : Pos} (c : Ctx X N sc) (h : EM X e ρ M fun d M1 => ∃ ρ', Put N ρ x (some d) ρ' ∧ P.nx ρ' M1) (hl : locB sc x = true := by decide +kernel) (hs : swapsWith e (some (.Name x pos')) pos.line X.env = pure false := by rfl) : S1 X (.Assign [.Name x pos'] e pos) ρ M P := ⟨fun F σ B H hr hx Dn g pins s I => by
  obtain ⟨h3, h4⟩ := c.sto x hl
  refine wpAny_Assign_Name (thn (h F σ B H hr hx (fun v H1 => ∃ i : Nat, N[i]? = some x ∧ Dn.nx (σ.set i (some v)) H1) (fun d M1 v B1 H1 ⟨ρ', h1, h2⟩ s1 x1 r1 => ?_) pins s I) fun v s1 ⟨y, H1, I1, r1, q1⟩ => ?_) hs
  · obtain ⟨i, e1, e2⟩ := h1.ix
    exact ⟨i, e1, g.nx ρ' M1 _ B1 H1 h2 s1 (by rw [e2]; exact (hr.mono s1).set r1) x1⟩
  · obtain ⟨i, e1, q1⟩ := q1
    exact store_ok I1 (by rw [c.nm]; exact c.nd) (by rw [c.nm]; exact e1) h3 r1 (fun s2 I2 => ⟨_, H1, I2, q1⟩) h4⟩
/-- name = [..], frozen or not: P0 is what the list is asked -/
theorem S1.setLcX {x : Str} {py spos : Pos} {ifs : List Expr} {tt : TT} {T : Rho → Mem → (Bool → Mem → Prop) → Prop} {P0 : D → Mem → Prop} (c : Ctx X N sc) (xs : List Str) (hw : Wp N ρ xs ρw)
    (hpt : ∀ s H0 C cl fp, PTs (Bk X scope s H0 C cl fp) ifs tt)
    (hT : ∀ ρ M P, T ρ M P → ∀ (F : Mem) (σ : L2.St) (B H : Hp), EnvRep X.K B σ ρ → Holds X.K B (M ++ F) H → ∀ Q : Bool → Hp → Prop, (∀ b M' B' H', P b M' → Same B B' → Holds X.K B' (M' ++ F) H' → Q b H') → tt σ H Q)
    (h : IW X tg iter ρ M (LcP X N scope tg elt xs T ρw P0))
    (h0 : ∀ (F : Mem) (d : D) (M' : Mem) (v : V) (B H : Hp), P0 d M' → Holds X.K B (M' ++ F) H → Rep X.K B v d → ∃ (d' : D) (M2 : Mem) (B' : Hp) (ρ' : Rho), Same B B' ∧ Holds X.K B' (M2 ++ F) H ∧ Rep X.K B' v d' ∧ Put N ρ x (some d') ρ' ∧ P.nx ρ' M2)
    (hk : chk N sc scope xs = true)
    (hin : N.contains x = true) (hl : lclB sc x = true) (hln : (py.line == pos.line) = true) (hna : (scope.names.any fun (n, k) => n == x && (k == .local || k == .cell)) = false)
    (hs : ∀ x, foldedSetIterable iter X.env x = pure x) : S1 X (.Assign [.Name x py] (.ListComp elt [⟨tg, iter, ifs, 0⟩] scope pos) spos) ρ M P := ⟨fun F σ B H hr hx Dn g => by
  obtain ⟨wi, hp, hi⟩ := h
  have hlc := c.lcl x hl
  have hex : ∃ i : Nat, N[i]? = some x := List.mem_iff_getElem?.mp (by simpa using hin)
  obtain ⟨i, e1⟩ := hex
  refine WS.of (ps_setLc (i := i) (g := BG X scope tg) (tt := tt) (te := BE X scope elt) c.calm (by rw [c.nm]; exact c.nd) (by rw [c.nm]; exact e1) hlc (sw_true c.kind hlc hln hna) hp (chk_ok c hk) (fun s H0 C cl fp => ⟨fun pins s' σ H' v u Q I r h => h s H0 C cl fp pins s' u I r⟩) hpt (fun s H0 C cl fp => ⟨fun pins s' σ H' Q I h => h s H0 C cl fp pins s' I⟩) hs) ?_
  refine lcRead (tt := tt) (T := T) (P := P0) c.nd hT hr hw (fun R hR => hi F σ B H hr hx R hR) fun d M' v B' H' hP s' x' r' => ?_
  obtain ⟨d', M2, B2, ρ', s2, x2, r2, h1, h2⟩ := h0 F d M' v B' H' hP x' r'
  obtain ⟨j, e2, e3⟩ := h1.ix
  have ij : i = j := nodup_at c.nd e1 e2
  subst ij
  exact g.nx ρ' M2 _ B2 H' h2 (s'.trans s2) (by rw [e3]; exact (hr.mono (s'.trans s2)).set r2) x2⟩
theorem raw0 {x : Str} (F : Mem) (d : D) (M' : Mem) (v : V) (B H : Hp) (h : ∃ ρ', Put N ρ x (some d) ρ' ∧ P.nx ρ' M') (hx : Holds X.K B (M' ++ F) H) (r : Rep X.K B v d) : ∃ (d' : D) (M2 : Mem) (B' : Hp) (ρ' : Rho), Same B B' ∧ Holds X.K B' (M2 ++ F) H ∧ Rep X.K B' v d' ∧ Put N ρ x (some d') ρ' ∧ P.nx ρ' M2 :=
  let ⟨ρ', h1, h2⟩ := h
  ⟨d, M', B, ρ', Same.refl B, hx, r, h1, h2⟩
theorem frz0 {x : Str} (F : Mem) (d : D) (M' : Mem) (v : V) (B H : Hp) (h : Fz (fun d M' => ∃ ρ', Put N ρ x (some d) ρ' ∧ P.nx ρ' M') d M') (hx : Holds X.K B (M' ++ F) H) (r : Rep X.K B v d) : ∃ (d' : D) (M2 : Mem) (B' : Hp) (ρ' : Rho), Same B B' ∧ Holds X.K B' (M2 ++ F) H ∧ Rep X.K B' v d' ∧ Put N ρ x (some d') ρ' ∧ P.nx ρ' M2 := by
  obtain ⟨p, k, l, e1, e2, ρ', h1, h2⟩ := h
  subst e1
  cases r
  obtain ⟨xs, a1, a2, a3, a4⟩ := hx.freeze (at_app e2)
  rw [erase_app e2] at a4
  exact ⟨_, _, _, ρ', Same.upd a2, a4, a3, h1, h2⟩
theorem S1.setLc {x : Str} {py spos : Pos} (c : Ctx X N sc) (xs : List Str) (hw : Wp N ρ xs ρw) (h : IW X tg iter ρ M (LcP X N scope tg elt xs T0 ρw fun d M1 => ∃ ρ', Put N ρ x (some d) ρ' ∧ P.nx ρ' M1)) (hk : chk N sc scope xs = true := by decide +kernel)
    (hin : N.contains x = true := by decide +kernel) (hl : lclB sc x = true := by decide +kernel) (hln : (py.line == pos.line) = true := by rfl) (hna : (scope.names.any fun (n, k) => n == x && (k == .local || k == .cell)) = false := by decide +kernel)
    (hs : ∀ x, foldedSetIterable iter X.env x = pure x := by intro _; rfl) : S1 X (.Assign [.Name x py] (.ListComp elt [⟨tg, iter, [], 0⟩] scope pos) spos) ρ M P :=
  S1.setLcX c xs hw (fun _ _ _ _ _ => pts_nil) (fun ρ M P hp F σ B H hr hx Q q => q true M B H hp (Same.refl B) hx) h raw0 hk hin hl hln hna hs
theorem S1.setLcF {x : Str} {py spos : Pos} (c : Ctx X N sc) (xs : List Str) (hw : Wp N ρ xs ρw) (h : IW X tg iter ρ M (LcP X N scope tg elt xs T0 ρw (Fz fun d M1 => ∃ ρ', Put N ρ x (some d) ρ' ∧ P.nx ρ' M1))) (hk : chk N sc scope xs = true := by decide +kernel)
    (hin : N.contains x = true := by decide +kernel) (hl : lclB sc x = true := by decide +kernel) (hln : (py.line == pos.line) = true := by rfl) (hna : (scope.names.any fun (n, k) => n == x && (k == .local || k == .cell)) = false := by decide +kernel)
    (hs : ∀ x, foldedSetIterable iter X.env x = pure x := by intro _; rfl) : S1 X (.Assign [.Name x py] (.ListComp elt [⟨tg, iter, [], 0⟩] scope pos) spos) ρ M P :=
  S1.setLcX c xs hw (fun _ _ _ _ _ => pts_nil) (fun ρ M P hp F σ B H hr hx Q q => q true M B H hp (Same.refl B) hx) h frz0 hk hin hl hln hna hs
theorem S1.setLcF1 {x : Str} {t : Expr} {py spos : Pos} (c : Ctx X N sc) (xs : List Str) (hw : Wp N ρ xs ρw) (h : IW X tg iter ρ M (LcP X N scope tg elt xs (T1 X scope t) ρw (Fz fun d M1 => ∃ ρ', Put N ρ x (some d) ρ' ∧ P.nx ρ' M1))) (hk : chk N sc scope xs = true := by decide +kernel)
    (hin : N.contains x = true := by decide +kernel) (hl : lclB sc x = true := by decide +kernel) (hln : (py.line == pos.line) = true := by rfl) (hna : (scope.names.any fun (n, k) => n == x && (k == .local || k == .cell)) = false := by decide +kernel)
    (hs : ∀ x, foldedSetIterable iter X.env x = pure x := by intro _; rfl) : S1 X (.Assign [.Name x py] (.ListComp elt [⟨tg, iter, [t], 0⟩] scope pos) spos) ρ M P :=
  S1.setLcX c xs hw (fun s H0 C cl fp => pts_one ⟨fun pins s' σ H' Q I h => h s H0 C cl fp pins s' I⟩) (tt := BT X scope t) (fun ρ M P hp F σ B H hr hx Q q s H0 C cl fp => hp s H0 C cl fp F σ B H hr hx Q q) h frz0 hk hin hl hln hna hs
end
end Dl
namespace Dl
open PySem PySem.Spec PyProof.Rows L2
section
variable {X : Cx} {N : List Str} {sc scope : Scope} {ρ ρ' ρw : Rho} {M : Mem} {P : Out} {e a b c o i elt tg iter : Expr} {es : List Expr} {xs : List Str} {pos pos' : Pos} {st : Stmt} {rest body orelse : List Stmt}
/-- any target -/
theorem S1.asg (c : Ctx X N sc) (h : EM X e ρ M fun d M1 => ∃ ρ' xs, GM X N tg xs d ρ ρ' ∧ P.nx ρ' M1) (hs : swapsWithSole [tg] e pos.line X.env = pure false := by rfl) (hw : swappedStores [tg] e X.env = pure none := by rfl)
    (h1 : (assignEach [tg] X.env).map (·.2) = [assign tg X.env] := by rfl) : S1 X (.Assign [tg] e pos) ρ M P := ⟨fun F σ B H hr hx Dn g =>
  WS.of (ps_asg WE.pe WG.pg hs hw h1) (h F σ B H hr hx _ fun d M1 v B1 H1 ⟨ρ', xs, hg, p⟩ s1 x1 r1 => hg σ B1 H1 _ v (hr.mono s1) x1 r1 _ fun σ' r' _ => g.nx ρ' M1 σ' B1 H1 p s1 r' x1)⟩
/-- xs[i] = e of a list that may change -/
theorem S1.sub (h : EM X e ρ M fun d M1 => EM X o ρ M1 fun l M2 => EM X i ρ M2 fun z M3 => ∃ (p : Addr) (k : Nat) (ds : List D) (n : Int) (j : Nat), l = .raw (.ref p) ∧ z = .int n ∧ M3[k]? = some (p, MO.lst ds) ∧ ixN ds.length n = some j ∧ P.nx ρ (M3.set k (p, .lst (ds.set j d))))
    (hs : swapsWithSole [Expr.Subscript o i pos'] e pos.line X.env = pure false := by rfl) (hw : swappedStores [Expr.Subscript o i pos'] e X.env = pure none := by rfl)
    (h1 : (assignEach [Expr.Subscript o i pos'] X.env).map (·.2) = [assign (.Subscript o i pos') X.env] := by rfl)
    (ha : ∀ v, assign (.Subscript o i pos') X.env v = (do
      let ov ← holding [v] (eval o X.env)
      let iv ← holding [v, ov] (eval i X.env)
      standAt pos'
      holding [v, ov, iv] (setItem ov iv v)
      release [v, ov, iv] []) := by intro _; rfl) : S1 X (.Assign [.Subscript o i pos'] e pos) ρ M P := ⟨fun F σ B H hr hx Dn g =>
  WS.of (ps_asg WE.pe (pg_sub WE.pe WE.pe set_list ha) hs hw h1) (h F σ B H hr hx _ fun d M1 v B1 H1 h1 s1 x1 r1 =>
    h1 F σ B1 H1 (hr.mono s1) x1 _ fun l M2 ov B2 H2 h2 s2 x2 r2 => h2 F σ B2 H2 (hr.mono (s1.trans s2)) x2 _ fun z M3 iv B3 H3 ⟨p, k, ds, n, j, e1, e2, e3, e4, h3⟩ s3 x3 r3 => by
      subst e1 e2
      cases r2; cases r3
      obtain ⟨ob, a1, a2, _⟩ := x3.at (at_app e3)
      cases a2 with
      | @lst ys _ rl =>
        refine ⟨p, ys, n, j, rfl, rfl, a1, by rw [rl.length]; exact e4, ?_⟩
        have x4 := x3.put (at_app e3) (mo' := .lst (ds.set j d)) (.lst (rl.set (r1.mono (s2.trans s3)) j))
        rw [set_app e3] at x4
        exact g.nx ρ _ σ B3 _ h3 (s1.trans (s2.trans s3)) (hr.mono (s1.trans (s2.trans s3))) x4)⟩
/-- o.f = e of an instance that may change -/
theorem S1.fld {f : Str} (h : EM X e ρ M fun d M1 => EM X o ρ M1 fun l M2 => ∃ (p : Addr) (k : Nat) (C : Addr) (fs : List (Str × D)), l = .raw (.ref p) ∧ M2[k]? = some (p, MO.ins C fs) ∧ Cls X.K C ∧ NoAttr X.K C f ∧ fs.length < 1000 ∧ P.nx ρ (M2.set k (p, .ins C (putD f d fs))))
    (hs : swapsWith e (some (.Attribute o f pos')) pos.line X.env = pure false := by rfl) : S1 X (.Assign [.Attribute o f pos'] e pos) ρ M P := ⟨fun F σ B H hr hx Dn g =>
  WS.of (ps_fld WE.pe WE.pe hs) (h F σ B H hr hx _ fun d M1 v B1 H1 h1 s1 x1 r1 => h1 F σ B1 H1 (hr.mono s1) x1 _ fun l M2 ov B2 H2 ⟨p, k, C, fs, e1, e2, e3, e4, e5, h2⟩ s2 x2 r2 => by
    subst e1
    cases r2
    obtain ⟨ob, a1, a2, _⟩ := x2.at (at_app e2)
    cases a2 with
    | @ins _ dx vs _ rf =>
      refine ⟨p, C, dx, vs, rfl, a1, e3, e4, by rw [rf.length]; exact e5, ?_⟩
      have x4 := x2.put (at_app e2) (mo' := .ins C (putD f d fs)) (.ins (dx := dx) (rf.put (r1.mono s2)))
      rw [set_app e2] at x4
      exact g.nx ρ _ σ B2 _ h2 (s1.trans s2) (hr.mono (s1.trans s2)) x4)⟩
theorem S1.expr (h : EM X e ρ M fun _ M1 => P.nx ρ M1) (hs : swapsWith e none pos.line X.env = pure false := by rfl) : S1 X (.Expr e pos) ρ M P := ⟨fun F σ B H hr hx Dn g =>
  WS.of (ps_expr WE.pe hs) (h F σ B H hr hx _ fun d M1 v B1 H1 h1 s1 x1 r1 => g.nx ρ M1 σ B1 H1 h1 s1 (hr.mono s1) x1)⟩
theorem S1.ret (h : EM X e ρ M P.rt) : S1 X (.Return (some e) pos) ρ M P := ⟨fun F σ B H hr hx Dn g =>
  WS.of (ps_ret WE.pe) (h F σ B H hr hx _ fun d M1 v B1 H1 h1 s1 x1 r1 => g.rt d M1 v B1 H1 h1 s1 r1 x1)⟩
theorem S1.retN (h : P.rt .non M) : S1 X (.Return none pos) ρ M P := ⟨fun F σ B H hr hx Dn g => WS.of ps_retN (g.rt _ M _ B H h (Same.refl B) .non hx)⟩
theorem S1.pass (h : P.nx ρ M) : S1 X (.Pass pos) ρ M P := ⟨fun F σ B H hr hx Dn g => WS.of ps_pass (g.nx ρ M σ B H h (Same.refl B) hr hx)⟩
theorem S1.ife (h : TM X c ρ M fun k M1 => if k = true then SM X body ρ M1 P else SM X orelse ρ M1 P) : S1 X (.If c body orelse pos) ρ M P := ⟨fun F σ B H hr hx Dn g =>
  WS.of (ps_if WT.pt WSs.ps WSs.ps) (h F σ B H hr hx _ fun k M1 B1 H1 p s1 x1 => by
    cases k with
    | true => exact (it1 p) F σ B1 H1 (hr.mono s1) x1 Dn (g.mono s1)
    | false => exact (it0 p) F σ B1 H1 (hr.mono s1) x1 Dn (g.mono s1))⟩
/-- for: an invariant by the turn, the slots, the memory -/
def ForP (X : Cx) (N : List Str) (tg : Expr) (body : List Stmt) (ρ : Rho) (P : Out) (l : List D) (M1 : Mem) : Prop := ∃ I : Nat → Rho → Mem → Prop, I 0 ρ M1 ∧
  (∀ i x ρ' M', l[i]? = some x → I i ρ' M' → ∃ ρ'' xs, GM X N tg xs x ρ' ρ'' ∧ SM X body ρ'' M' { nx := I (i + 1), ct := I (i + 1), rt := P.rt, bk := P.nx }) ∧ ∀ ρ' M', I l.length ρ' M' → P.nx ρ' M'
theorem S1.forr (c : Ctx X N sc) (h : IW X tg iter ρ M (ForP X N tg body ρ P)) (hs : ∀ x, foldedSetIterable iter X.env x = pure x := by intro _; rfl) : S1 X (.For tg iter body [] pos) ρ M P := ⟨fun F σ B H hr hx Dn g => by
  obtain ⟨wi, hp, hi⟩ := h
  refine WS.of (ps_for c.po c.calm hp WG.pg WSs.ps hs) (hi F σ B H hr hx _ fun l J M1 B1 H1 ⟨I, i0, turn, fin⟩ s1 x1 Y => ?_)
  refine ⟨fun i m σ' H' => m = l.length - i ∧ i ≤ l.length ∧ ∃ ρ' M' B', I i ρ' M' ∧ Same B1 B' ∧ EnvRep X.K B' σ' ρ' ∧ Holds X.K B' (M' ++ F) H', ⟨l.length, by simp, Nat.zero_le _, ρ, M1, B1, i0, Same.refl _, hr.mono s1, x1⟩, ?_⟩
  rintro i m σ' H' ⟨rfl, hi', ρ', M', B', hI, s2, r2, x2⟩
  have sH : Same B1 H' := s2.trans x2.fr
  by_cases hlt : i < l.length
  · refine .inr ⟨Y.go i H' sH hlt, fun σ' H' => (i + 1 ≤ l.length ∧ ∃ ρ' M' B', I (i + 1) ρ' M' ∧ Same B1 B' ∧ EnvRep X.K B' σ' ρ' ∧ Holds X.K B' (M' ++ F) H'), fun σ'' H'' ⟨a, b⟩ => ⟨l.length - (i + 1), by omega, rfl, a, b⟩, fun x H'' hy => ?_⟩
    obtain ⟨rfl, d, hd, rd⟩ := Y.yld i H' x H'' sH hlt hy
    obtain ⟨ρ'', xs, hg, hb⟩ := turn i d ρ' M' hd hI
    refine hg σ' B' _ _ x r2 x2 (rd.mono s2) _ fun σ2 r3 _ => ?_
    refine hb F σ2 B' _ r3 x2 _ ⟨fun ρ3 M3 σ3 B3 H3 p s r x => ⟨hlt, ρ3, M3, B3, p, s2.trans s, r, x⟩, fun d3 M3 v3 B3 H3 p s r x => g.rt d3 M3 v3 B3 H3 p (s1.trans (s2.trans s)) r x,
      fun ρ3 M3 σ3 B3 H3 p s r x => g.nx ρ3 M3 σ3 B3 H3 p (s1.trans (s2.trans s)) r x, fun ρ3 M3 σ3 B3 H3 p s r x => ⟨hlt, ρ3, M3, B3, p, s2.trans s, r, x⟩⟩
  · have e : i = l.length := by omega
    subst e
    exact .inl ⟨Y.stop H' sH, g.nx ρ' M' σ' B' H' (fin ρ' M' hI) (s1.trans s2) r2 x2⟩⟩
/-- while: an invariant with a measure -/
theorem S1.whil (cx : Ctx X N sc) (W : Nat → Rho → Mem → Prop) (m0 : Nat) (h0 : W m0 ρ M) (turn : ∀ m ρ' M', W m ρ' M' → TM X c ρ' M' fun k M1 => if k = true then SM X body ρ' M1 { nx := fun ρ2 M2 => ∃ m', m' < m ∧ W m' ρ2 M2, ct := fun ρ2 M2 => ∃ m', m' < m ∧ W m' ρ2 M2, rt := P.rt, bk := P.nx } else P.nx ρ' M1) : S1 X (.While c body [] pos) ρ M P := ⟨fun F σ B H hr hx Dn g => by
  refine WS.of (ps_while cx.po WT.pt WSs.ps) ⟨fun m σ' H' => ∃ ρ' M' B', W m ρ' M' ∧ Same B B' ∧ EnvRep X.K B' σ' ρ' ∧ Holds X.K B' (M' ++ F) H', ⟨m0, ρ, M, B, h0, Same.refl _, hr, hx⟩, ?_⟩
  rintro m σ' H' ⟨ρ', M', B', hW, s2, r2, x2⟩
  refine turn m ρ' M' hW F σ' B' H' r2 x2 _ fun k M1 B1 H1 p s1 x1 => ?_
  cases k with
  | false => exact g.nx ρ' M1 σ' B1 H1 p (s2.trans s1) (r2.mono s1) x1
  | true =>
    rw [if_pos rfl] at p ⊢
    refine ⟨fun σ3 H3 => ∃ m', m' < m ∧ ∃ ρ' M' B', W m' ρ' M' ∧ Same B B' ∧ EnvRep X.K B' σ3 ρ' ∧ Holds X.K B' (M' ++ F) H3, fun σ3 H3 q => q, ?_⟩
    refine p F σ' B1 H1 (r2.mono s1) x1 _ ⟨fun ρ3 M3 σ3 B3 H3 ⟨m', a, b⟩ s r x => ⟨m', a, ρ3, M3, B3, b, s2.trans (s1.trans s), r, x⟩, fun d3 M3 v3 B3 H3 p s r x => g.rt d3 M3 v3 B3 H3 p (s2.trans (s1.trans s)) r x,
      fun ρ3 M3 σ3 B3 H3 p s r x => g.nx ρ3 M3 σ3 B3 H3 p (s2.trans (s1.trans s)) r x, fun ρ3 M3 σ3 B3 H3 ⟨m', a, b⟩ s r x => ⟨m', a, ρ3, M3, B3, b, s2.trans (s1.trans s), r, x⟩⟩⟩
/-- xs.append(e) -/
def tyList (d : D) (M : Mem) : Prop := ∃ (p : Addr) (k : Nat) (l : List D), d = .raw (.ref p) ∧ M[k]? = some (p, MO.lst l)
def RAppend : DM := fun d ds M P => ∃ (p : Addr) (k : Nat) (l : List D) (z : D), d = .raw (.ref p) ∧ ds = [z] ∧ M[k]? = some (p, MO.lst l) ∧ l.length < sizeLine ∧ P .non (M.set k (p, .lst (l ++ [z])))
theorem tyList_ok {K : PySem.W.Frag} {F : Mem} {B : Hp} {M : Mem} {H : Hp} {x : V} {d : D} (hx : Holds K B (M ++ F) H) (r : Rep K B x d) (t : tyList d M) : tyV K "list" x H := by
  obtain ⟨p, k, l, rfl, h⟩ := t
  cases r
  obtain ⟨ob, a1, a2, _⟩ := hx.at (at_app h)
  cases a2 with
  | lst rl => exact .inl ⟨rfl, _, SqL.of a1⟩
theorem dAppend {K : PySem.W.Frag} : DMeth K "list" rAppend tyList RAppend := ⟨fun F B M H x d hx r t => tyList_ok hx r t, fun F B M H x d vs ds P Q hx r rs hR q => by
  obtain ⟨p, k, l, z, rfl, rfl, h1, h2, h3⟩ := hR
  cases r
  match rs with
  | .cons rz .nil =>
    obtain ⟨ob, a1, a2, _⟩ := hx.at (at_app h1)
    cases a2 with
    | @lst ys _ rl =>
      refine ⟨p, ys, _, rfl, rfl, a1, by rw [rl.length]; exact h2, ?_⟩
      have x4 := hx.put (at_app h1) (mo' := .lst (l ++ [z])) (.lst (rl.append (.cons rz .nil)))
      rw [set_app h1] at x4
      exact q _ _ _ B _ h3 (Same.refl B) x4 .non⟩
/-- xs.extend(ys), ys data -/
def RExtend : DM := fun d ds M P => ∃ (p : Addr) (k : Nat) (l z : List D), d = .raw (.ref p) ∧ ds = [.lst z] ∧ M[k]? = some (p, MO.lst l) ∧ l.length + z.length ≤ sizeLine ∧ P .non (M.set k (p, .lst (l ++ z)))
theorem dExtend {K : PySem.W.Frag} : DMeth K "list" rExtend tyList RExtend := ⟨fun F B M H x d hx r t => tyList_ok hx r t, fun F B M H x d vs ds P Q hx r rs hR q => by
  obtain ⟨p, k, l, z, rfl, rfl, h1, h2, h3⟩ := hR
  cases r
  match rs with
  | .cons (.lst hb rz) .nil =>
    obtain ⟨ob, a1, a2, _⟩ := hx.at (at_app h1)
    cases a2 with
    | @lst ys _ rl =>
      refine ⟨p, _, ys, _, rfl, rfl, a1, hx.fr _ _ hb, by rw [rl.length, rz.length]; exact h2, ?_⟩
      have x4 := hx.put (at_app h1) (mo' := .lst (l ++ z)) (.lst (rl.append rz))
      rw [set_app h1] at x4
      exact q _ _ _ B _ h3 (Same.refl B) x4 .non⟩
/-- xs.pop(i) -/
def RPopAt : DM := fun d ds M P => ∃ (p : Addr) (k : Nat) (l : List D) (i : Int) (j : Nat) (z : D), d = .raw (.ref p) ∧ ds = [.int i] ∧ M[k]? = some (p, MO.lst l) ∧ (-(2 ^ 63) ≤ i ∧ i < 2 ^ 63) ∧ seqIndex? i l.length = some j ∧ l[j]? = some z ∧ P z (M.set k (p, .lst (l.eraseIdx j)))
theorem dPopAt {K : PySem.W.Frag} : DMeth K "list" rPopAt tyList RPopAt := ⟨fun F B M H x d hx r t => tyList_ok hx r t, fun F B M H x d vs ds P Q hx r rs hR q => by
  obtain ⟨p, k, l, i, j, z, rfl, rfl, h1, h2, h3, h4, h5⟩ := hR
  cases r
  match rs with
  | .cons (.int _) .nil =>
    obtain ⟨ob, a1, a2, _⟩ := hx.at (at_app h1)
    cases a2 with
    | @lst ys _ rl =>
      obtain ⟨v, b1, b2⟩ := rl.get h4
      refine ⟨p, ys, i, j, v, rfl, rfl, a1, h2.1, h2.2, by rw [rl.length]; exact h3, b1, ?_⟩
      have x4 := hx.put (at_app h1) (mo' := .lst (l.eraseIdx j)) (.lst (rl.eraseIdx j))
      rw [set_app h1] at x4
      exact q _ _ _ B _ h5 (Same.refl B) x4 b2⟩
end

/-! ### a def keeps its promise -/
def startD (N : List Str) (ds : List D) : Rho := ds.map some ++ List.replicate (N.length - ds.length) none
theorem start_rep {K : PySem.W.Frag} {B : Hp} {N : List Str} {vs : List V} {ds : List D} (r : Reps K B vs ds) : EnvRep K B (L2.start N vs) (startD N ds) := by
  unfold L2.start startD
  refine ⟨by simp [r.length], fun i d h => ?_⟩
  by_cases hi : i < ds.length
  · rw [List.getElem?_append_left (by simpa using hi), List.getElem?_map] at h
    cases e : ds[i]? with
    | none => rw [e] at h; cases h
    | some d' =>
      rw [e] at h
      cases h
      obtain ⟨v, h1, h2⟩ := r.get e
      refine ⟨v, ?_, h2⟩
      rw [List.getElem?_append_left (by simpa [r.length] using hi), List.getElem?_map, h1] <;> rfl
  · rw [List.getElem?_append_right (by simpa using hi), List.getElem?_replicate] at h
    split at h <;> cases h
/-- THE RULE for a def whose errors nobody sees: S what it does -/
theorem ok_fn {P : Program} {w : World} {K : PySem.W.Frag} {mg : Str → Option Value} {base : Heap} {x qual : Str} {st : Stmt} {f : Addr} {fd : FuncData} {N ps : List Str} {k : Nat} {S : DA} (F : Fun K x qual st f fd) (sc : FnScope N ps (defScope st)) (hl : DLen S ps.length)
    (body : ∀ X : Cx, X.prog = P → X.w = w → X.K = K → X.mg = mg → X.base = base → Ctx X N (defScope st) → Room k X.A → ∀ ds M (Q : D → Mem → Prop), S ds M Q → SM X (defBody st) (startD N ds) M { nx := fun _ M' => Q .non M', rt := Q }) : FnOk P w K mg base CX0 (k + 1) f fd ps (spD K S) := by
  refine F.ok sc (fun vs H Q E h => ?_) (fun cdv A outer s H vs Q E hr h => ?_)
  · obtain ⟨F, B, M, ds, r, _, h⟩ := h
    rw [r.length]
    exact hl _ _ _ h
  · obtain ⟨F, B, M, ds, r, x, h⟩ := h
    refine ⟨_, WSs.ps, ?_⟩
    refine body (cxOf CX0 P w K mg base N qual (defScope st) f cdv A outer s H E).nox rfl rfl rfl rfl rfl (Ctx.fn rfl sc.nd rfl rfl sc.kind (fun _ => rfl) PassesOwn.never) hr ds M _ h F (L2.start N vs) B H (start_rep r) x _ ⟨fun ρ M σ B' H' p s _ x => p _ B' H' s x .non, fun d M v B' H' p s r x => p v B' H' s x r, fun _ _ _ _ _ p => p.elim, fun _ _ _ _ _ p => p.elim⟩
theorem ok_def {P : Program} {w : World} {K : PySem.W.Frag} {mg : Str → Option Value} {base : Heap} {x qual : Str} {st : Stmt} {f : Addr} {fd : FuncData} {N ps : List Str} {k : Nat} {S : DA} (F : Fun K x qual st f fd) (sc : FnScope N ps (defScope st)) (hm : mg x = some (.ref f)) (hb : Binds K fd ps []) (mono : DMono S) (hl : DLen S ps.length)
    (body : ∀ X : Cx, X.prog = P → X.w = w → X.K = K → X.mg = mg → X.base = base → Ctx X N (defScope st) → Room k X.A → ∀ ds M (Q : D → Mem → Prop), S ds M Q → SM X (defBody st) (startD N ds) M { nx := fun _ M' => Q .non M', rt := Q }) : Gd P w K mg base x (k + 1) ps S :=
  ⟨⟨f, fd, ok_fn F sc hl body, hm, F.kp, hb⟩, mono⟩
end Dl
namespace Dl
open PySem PySem.Spec PyProof.Rows L2
section
variable {X : Cx} {N : List Str} {sc scope : Scope} {ρ ρ' ρw : Rho} {M : Mem} {P : D → Mem → Prop} {e a b c o i elt tg iter t : Expr} {es : List Expr} {xs : List Str} {pos px : Pos} {α β : Type}
/-- a call over a part of the memory -/
theorem EM.callF {x : Str} {k j : Nat} {ps : List Str} {S : DA} {p : Pos} (c : Ctx X N sc) (hr : Room j X.A) (G : Gd X.prog X.w X.K X.mg X.base x k ps S) (h : AM X (e :: es) ρ M fun ds M1 => ∃ Ma Mb, M1 = Ma ++ Mb ∧ S ds Ma fun d M' => P d (M' ++ Mb)) (hk : k ≤ j := by decide)
    (hg : glB sc x = true := by decide +kernel) (hdb : (x == ("__debug__" : Str)) = false := by decide +kernel)
    (he : starEach (e :: es) X.env = (false, eval e X.env) :: starEach es X.env := by rfl) (hpl : (backTo pos (starEach es X.env)).any (·.1) = false := by rfl) : EM X (.Call (.Name x p) (e :: es) [] pos) ρ M P := ⟨fun F σ B H hρ hx Q q => by
  obtain ⟨f, fd, g, hm, hkp, hb⟩ := G.ex
  refine WE.of (pe_call g (hr.mono hk) (c.gl x hg) hm hkp hb .nil pass0 WA.pa hdb he hpl) (h F σ B H hρ hx _ fun ds M1 vs B1 H1 ⟨Ma, Mb, e1, h1⟩ s1 x1 r1 => ?_)
  subst e1
  show spD X.K S (vs ++ []) H1 Q E0
  rw [List.append_nil]
  rw [List.append_assoc] at x1
  exact ⟨Mb ++ F, B1, Ma, ds, r1, x1, G.mono ds Ma _ _ (fun d M' p v B' H' s x r => q d (M' ++ Mb) v B' H' p (s1.trans s) (by rw [List.append_assoc]; exact x) r) h1⟩⟩
/-- [elt for x in as]: the element is h of the item; the memory stays -/
theorem IW.lcMap {x : Str} (c : Ctx X N sc) (h : IW X (.Name x px) iter ρ M fun l M1 => ∃ (as : List α) (g h : α → D), l = as.map g ∧ as.length ≤ 10000000 ∧ (∀ a ∈ as, ∃ ρ', Put N ρw x (some (g a)) ρ' ∧ ∀ s H0 C cl fp, EM (Bk X scope s H0 C cl fp) elt ρ' M1 fun y M3 => y = h a ∧ M3 = M1) ∧ P (.lst (as.map h)) M1) (hl : locB scope x = true) (hkd : scope.kind = .function) : IW X (.Name x px) iter ρ M (LcP X N scope (.Name x px) elt [x] T0 ρw (Fz P)) := by
  obtain ⟨wi, hp, hi⟩ := h
  refine ⟨wi, hp, fun F σ B H hr hx R hR => hi F σ B H hr hx R fun l J M1 B1 H1 hL => hR l J M1 B1 H1 ?_⟩
  obtain ⟨as, g, h, rfl, hz, turn, fin⟩ := hL
  refine ⟨by rw [List.length_map]; exact Nat.le_trans hz (by decide), fun i acc M' => M' = M1 ∧ acc = (as.take i).map h, ⟨rfl, rfl⟩, ?_, ?_⟩
  · rintro i d acc M' hd ⟨rfl, rfl⟩
    rw [List.getElem?_map] at hd
    cases ea : as[i]? with
    | none => rw [ea] at hd; cases hd
    | some a =>
      rw [ea] at hd
      cases hd
      obtain ⟨ρ', hput, hel⟩ := turn a (List.mem_of_getElem? ea)
      refine ⟨ρ', [x], fun _ h => h, fun s H0 C cl fp => GM.name (c.blk hkd) hput hl, ?_⟩
      dsimp only [T0]
      rw [if_pos rfl]
      intro s H0 C cl fp
      refine (hel s H0 C cl fp).to fun y M3 ⟨e1, e2⟩ => ⟨e2, ?_⟩
      rw [e1, List.take_add_one, ea, List.map_append] <;> rfl
  · rintro acc M' p ⟨rfl, rfl⟩
    rw [List.length_map, List.take_length]
    exact ⟨p, 0, _, rfl, rfl, fin⟩
theorem EM.lcMap {x : Str} (c : Ctx X N sc) (hw : Wp N ρ [x] ρw) (h : IW X (.Name x px) iter ρ M fun l M1 => ∃ (as : List α) (g h : α → D), l = as.map g ∧ as.length ≤ 10000000 ∧ (∀ a ∈ as, ∃ ρ', Put N ρw x (some (g a)) ρ' ∧ ∀ s H0 C cl fp, EM (Bk X scope s H0 C cl fp) elt ρ' M1 fun y M3 => y = h a ∧ M3 = M1) ∧ P (.lst (as.map h)) M1)
    (hk : chk N sc scope [x] = true := by decide +kernel) (hl : locB scope x = true := by decide +kernel) (hkd : scope.kind = .function := by rfl)
    (hs : ∀ x, foldedSetIterable iter X.env x = pure x := by intro _; rfl) : EM X (.ListComp elt [⟨.Name x px, iter, [], 0⟩] scope pos) ρ M P := by
  refine EM.fz (EM.lcM c [x] hw (IW.lcMap c h hl hkd) hk hs)
theorem S1.setMap {x y : Str} {py spos : Pos} {O : Out} (c : Ctx X N sc) (hw : Wp N ρ [x] ρw) (h : IW X (.Name x px) iter ρ M fun l M1 => ∃ (as : List α) (g h : α → D), l = as.map g ∧ as.length ≤ 10000000 ∧ (∀ a ∈ as, ∃ ρ', Put N ρw x (some (g a)) ρ' ∧ ∀ s H0 C cl fp, EM (Bk X scope s H0 C cl fp) elt ρ' M1 fun y M3 => y = h a ∧ M3 = M1) ∧ ∃ ρ', Put N ρ y (some (.lst (as.map h))) ρ' ∧ O.nx ρ' M1)
    (hk : chk N sc scope [x] = true := by decide +kernel) (hl : locB scope x = true := by decide +kernel) (hkd : scope.kind = .function := by rfl)
    (hin : N.contains y = true := by decide +kernel) (hly : lclB sc y = true := by decide +kernel) (hln : (py.line == pos.line) = true := by rfl) (hna : (scope.names.any fun (n, k) => n == y && (k == .local || k == .cell)) = false := by decide +kernel)
    (hs : ∀ x, foldedSetIterable iter X.env x = pure x := by intro _; rfl) : S1 X (.Assign [.Name y py] (.ListComp elt [⟨.Name x px, iter, [], 0⟩] scope pos) spos) ρ M O :=
  S1.setLcF c [x] hw (IW.lcMap c h hl hkd) hk hin hly hln hna hs
/-- [elt for x in as if t] -/
theorem IW.lcFil {x : Str} (c : Ctx X N sc) (h : IW X (.Name x px) iter ρ M fun l M1 => ∃ (as : List α) (g h : α → D) (k : α → Bool), l = as.map g ∧ as.length ≤ 10000000 ∧ (∀ a ∈ as, ∃ ρ', Put N ρw x (some (g a)) ρ' ∧ (∀ s H0 C cl fp, TM (Bk X scope s H0 C cl fp) t ρ' M1 fun b M3 => b = k a ∧ M3 = M1) ∧ (k a = true → ∀ s H0 C cl fp, EM (Bk X scope s H0 C cl fp) elt ρ' M1 fun y M3 => y = h a ∧ M3 = M1)) ∧ P (.lst ((as.filter k).map h)) M1) (hl : locB scope x = true) (hkd : scope.kind = .function) : IW X (.Name x px) iter ρ M (LcP X N scope (.Name x px) elt [x] (T1 X scope t) ρw (Fz P)) := by
  obtain ⟨wi, hp, hi⟩ := h
  refine ⟨wi, hp, fun F σ B H hr hx R hR => hi F σ B H hr hx R fun l J M1 B1 H1 hL => hR l J M1 B1 H1 ?_⟩
  obtain ⟨as, g, h, k, rfl, hz, turn, fin⟩ := hL
  refine ⟨by rw [List.length_map]; exact Nat.le_trans hz (by decide), fun i acc M' => M' = M1 ∧ acc = ((as.take i).filter k).map h, ⟨rfl, rfl⟩, ?_, ?_⟩
  · rintro i d acc M' hd ⟨rfl, rfl⟩
    rw [List.getElem?_map] at hd
    cases ea : as[i]? with
    | none => rw [ea] at hd; cases hd
    | some a =>
      rw [ea] at hd
      cases hd
      obtain ⟨ρ', hput, htt, hel⟩ := turn a (List.mem_of_getElem? ea)
      refine ⟨ρ', [x], fun _ h => h, fun s H0 C cl fp => GM.name (c.blk hkd) hput hl, fun s H0 C cl fp => (htt s H0 C cl fp).to fun b M2 ⟨e1, e2⟩ => ?_⟩
      subst e1 e2
      cases hka : k a with
      | true =>
        rw [if_pos rfl]
        intro s H0 C cl fp
        refine (hel hka s H0 C cl fp).to fun y M3 ⟨e1, e2⟩ => ⟨e2, ?_⟩
        rw [e1, List.take_add_one, ea, List.filter_append, List.map_append]
        simp [hka]
      | false =>
        rw [if_neg Bool.false_ne_true]
        refine ⟨rfl, ?_⟩
        rw [List.take_add_one, ea, List.filter_append, List.map_append]
        simp [hka]
  · rintro acc M' p ⟨rfl, rfl⟩
    rw [List.length_map, List.take_length]
    exact ⟨p, 0, _, rfl, rfl, fin⟩
theorem EM.lcFil {x : Str} (c : Ctx X N sc) (hw : Wp N ρ [x] ρw) (h : IW X (.Name x px) iter ρ M fun l M1 => ∃ (as : List α) (g h : α → D) (k : α → Bool), l = as.map g ∧ as.length ≤ 10000000 ∧ (∀ a ∈ as, ∃ ρ', Put N ρw x (some (g a)) ρ' ∧ (∀ s H0 C cl fp, TM (Bk X scope s H0 C cl fp) t ρ' M1 fun b M3 => b = k a ∧ M3 = M1) ∧ (k a = true → ∀ s H0 C cl fp, EM (Bk X scope s H0 C cl fp) elt ρ' M1 fun y M3 => y = h a ∧ M3 = M1)) ∧ P (.lst ((as.filter k).map h)) M1)
    (hk : chk N sc scope [x] = true := by decide +kernel) (hl : locB scope x = true := by decide +kernel) (hkd : scope.kind = .function := by rfl)
    (hs : ∀ x, foldedSetIterable iter X.env x = pure x := by intro _; rfl) : EM X (.ListComp elt [⟨.Name x px, iter, [t], 0⟩] scope pos) ρ M P := by
  refine EM.fz (EM.lcM1 c [x] hw (IW.lcFil c h hl hkd) hk hs)
theorem S1.setFil {x y : Str} {py spos : Pos} {O : Out} (c : Ctx X N sc) (hw : Wp N ρ [x] ρw) (h : IW X (.Name x px) iter ρ M fun l M1 => ∃ (as : List α) (g h : α → D) (k : α → Bool), l = as.map g ∧ as.length ≤ 10000000 ∧ (∀ a ∈ as, ∃ ρ', Put N ρw x (some (g a)) ρ' ∧ (∀ s H0 C cl fp, TM (Bk X scope s H0 C cl fp) t ρ' M1 fun b M3 => b = k a ∧ M3 = M1) ∧ (k a = true → ∀ s H0 C cl fp, EM (Bk X scope s H0 C cl fp) elt ρ' M1 fun y M3 => y = h a ∧ M3 = M1)) ∧ ∃ ρ', Put N ρ y (some (.lst ((as.filter k).map h))) ρ' ∧ O.nx ρ' M1)
    (hk : chk N sc scope [x] = true := by decide +kernel) (hl : locB scope x = true := by decide +kernel) (hkd : scope.kind = .function := by rfl)
    (hin : N.contains y = true := by decide +kernel) (hly : lclB sc y = true := by decide +kernel) (hln : (py.line == pos.line) = true := by rfl) (hna : (scope.names.any fun (n, k) => n == y && (k == .local || k == .cell)) = false := by decide +kernel)
    (hs : ∀ x, foldedSetIterable iter X.env x = pure x := by intro _; rfl) : S1 X (.Assign [.Name y py] (.ListComp elt [⟨.Name x px, iter, [t], 0⟩] scope pos) spos) ρ M O :=
  S1.setLcF1 c [x] hw (IW.lcFil c h hl hkd) hk hin hly hln hna hs
/-- [elt for x in as], the state of the memory carried: f gives the element and the next state -/
def mapSt {S : Type} (f : S → α → β × S) : S → List α → List β × S
  | s, [] => ([], s)
  | s, a :: as => ((f s a).1 :: (mapSt f (f s a).2 as).1, (mapSt f (f s a).2 as).2)
theorem mapSt_length {S : Type} (f : S → α → β × S) : ∀ (as : List α) (s : S), (mapSt f s as).1.length = as.length
  | [], s => rfl
  | a :: as, s => by unfold mapSt; rw [List.length_cons, List.length_cons, mapSt_length f as]
theorem mapSt_snoc {S : Type} (f : S → α → β × S) (a : α) : ∀ (as : List α) (s : S), mapSt f s (as ++ [a]) = ((mapSt f s as).1 ++ [(f (mapSt f s as).2 a).1], (f (mapSt f s as).2 a).2)
  | [], s => rfl
  | b :: as, s => by
    rw [List.cons_append]
    unfold mapSt
    rw [mapSt_snoc f a as] <;> rfl
theorem IW.lcSt {S : Type} {x : Str} (c : Ctx X N sc) (h : IW X (.Name x px) iter ρ M fun l M1 => ∃ (as : List α) (g : α → D) (f : S → α → β × S) (h : β → D) (mm : S → Mem) (J : S → Prop) (s0 : S), l = as.map g ∧ as.length ≤ 10000000 ∧ M1 = mm s0 ∧ J s0 ∧
      (∀ a ∈ as, ∀ s, J s → ∃ ρ', Put N ρw x (some (g a)) ρ' ∧ ∀ s1 H0 C cl fp, EM (Bk X scope s1 H0 C cl fp) elt ρ' (mm s) fun y M3 => y = h (f s a).1 ∧ M3 = mm (f s a).2 ∧ J (f s a).2) ∧ (J (mapSt f s0 as).2 → P (.lst ((mapSt f s0 as).1.map h)) (mm (mapSt f s0 as).2))) (hl : locB scope x = true) (hkd : scope.kind = .function) : IW X (.Name x px) iter ρ M (LcP X N scope (.Name x px) elt [x] T0 ρw (Fz P)) := by
  obtain ⟨wi, hp, hi⟩ := h
  refine ⟨wi, hp, fun F σ B H hr hx R hR => hi F σ B H hr hx R fun l J M1 B1 H1 hL => hR l J M1 B1 H1 ?_⟩
  obtain ⟨as, g, f, h, mm, JJ, s0, rfl, hz, rfl, j0, turn, fin⟩ := hL
  refine ⟨by rw [List.length_map]; exact Nat.le_trans hz (by decide), fun i acc M' => M' = mm (mapSt f s0 (as.take i)).2 ∧ acc = (mapSt f s0 (as.take i)).1.map h ∧ JJ (mapSt f s0 (as.take i)).2, ⟨rfl, rfl, j0⟩, ?_, ?_⟩
  · rintro i d acc M' hd ⟨rfl, rfl, hj⟩
    rw [List.getElem?_map] at hd
    cases ea : as[i]? with
    | none => rw [ea] at hd; cases hd
    | some a =>
      rw [ea] at hd
      cases hd
      obtain ⟨ρ', hput, hel⟩ := turn a (List.mem_of_getElem? ea) _ hj
      have e2 : as.take (i + 1) = as.take i ++ [a] := by rw [List.take_add_one, ea] <;> rfl
      refine ⟨ρ', [x], fun _ h => h, fun s H0 C cl fp => GM.name (c.blk hkd) hput hl, ?_⟩
      dsimp only [T0]
      rw [if_pos rfl]
      intro s H0 C cl fp
      refine (hel s H0 C cl fp).to fun y M3 ⟨e1, e3, e4⟩ => ?_
      rw [e2, mapSt_snoc, e1, e3]
      exact ⟨rfl, by rw [List.map_append] <;> rfl, e4⟩
  · rintro acc M' p ⟨rfl, rfl, hj⟩
    rw [List.length_map, List.take_length] at hj ⊢
    exact ⟨p, 0, _, rfl, rfl, fin hj⟩
theorem EM.lcSt {S : Type} {x : Str} (c : Ctx X N sc) (hw : Wp N ρ [x] ρw) (h : IW X (.Name x px) iter ρ M fun l M1 => ∃ (as : List α) (g : α → D) (f : S → α → β × S) (h : β → D) (mm : S → Mem) (J : S → Prop) (s0 : S), l = as.map g ∧ as.length ≤ 10000000 ∧ M1 = mm s0 ∧ J s0 ∧
      (∀ a ∈ as, ∀ s, J s → ∃ ρ', Put N ρw x (some (g a)) ρ' ∧ ∀ s1 H0 C cl fp, EM (Bk X scope s1 H0 C cl fp) elt ρ' (mm s) fun y M3 => y = h (f s a).1 ∧ M3 = mm (f s a).2 ∧ J (f s a).2) ∧ (J (mapSt f s0 as).2 → P (.lst ((mapSt f s0 as).1.map h)) (mm (mapSt f s0 as).2)))
    (hk : chk N sc scope [x] = true := by decide +kernel) (hl : locB scope x = true := by decide +kernel) (hkd : scope.kind = .function := by rfl)
    (hs : ∀ x, foldedSetIterable iter X.env x = pure x := by intro _; rfl) : EM X (.ListComp elt [⟨.Name x px, iter, [], 0⟩] scope pos) ρ M P := by
  refine EM.fz (EM.lcM c [x] hw (IW.lcSt c h hl hkd) hk hs)
theorem S1.setSt {S : Type} {x y : Str} {py spos : Pos} {O : Out} (c : Ctx X N sc) (hw : Wp N ρ [x] ρw) (h : IW X (.Name x px) iter ρ M fun l M1 => ∃ (as : List α) (g : α → D) (f : S → α → β × S) (h : β → D) (mm : S → Mem) (J : S → Prop) (s0 : S), l = as.map g ∧ as.length ≤ 10000000 ∧ M1 = mm s0 ∧ J s0 ∧
      (∀ a ∈ as, ∀ s, J s → ∃ ρ', Put N ρw x (some (g a)) ρ' ∧ ∀ s1 H0 C cl fp, EM (Bk X scope s1 H0 C cl fp) elt ρ' (mm s) fun y M3 => y = h (f s a).1 ∧ M3 = mm (f s a).2 ∧ J (f s a).2) ∧ (J (mapSt f s0 as).2 → ∃ ρ', Put N ρ y (some (.lst ((mapSt f s0 as).1.map h))) ρ' ∧ O.nx ρ' (mm (mapSt f s0 as).2)))
    (hk : chk N sc scope [x] = true := by decide +kernel) (hl : locB scope x = true := by decide +kernel) (hkd : scope.kind = .function := by rfl)
    (hin : N.contains y = true := by decide +kernel) (hly : lclB sc y = true := by decide +kernel) (hln : (py.line == pos.line) = true := by rfl) (hna : (scope.names.any fun (n, k) => n == y && (k == .local || k == .cell)) = false := by decide +kernel)
    (hs : ∀ x, foldedSetIterable iter X.env x = pure x := by intro _; rfl) : S1 X (.Assign [.Name y py] (.ListComp elt [⟨.Name x px, iter, [], 0⟩] scope pos) spos) ρ M O :=
  S1.setLcF c [x] hw (IW.lcSt c h hl hkd) hk hin hly hln hna hs
end
end Dl
namespace Dl
open PySem PySem.Spec PyProof.Rows L2
theorem ifT {c : Bool} {A B : Prop} (h : c = true) (x : A) : if c = true then A else B := by rw [if_pos h]; exact x
theorem ifF {c : Bool} {A B : Prop} (h : c = false) (x : B) : if c = true then A else B := by rw [h, if_neg Bool.false_ne_true]; exact x
/-! ### plain data compared -/
inductive Okn : Nat → D → Prop
  | non {n : Nat} : Okn n .non
  | bl {n : Nat} (b : Bool) : Okn n (.bl b)
  | int {n : Nat} (i : Int) : Okn n (.int i)
  | str {n : Nat} {x : Str} : PyData.strOk x = true → Okn n (.str x)
  | tup {n : Nat} {l : List D} : (∀ d ∈ l, Okn n d) → Okn (n + 1) (.tup l)
  | lst {n : Nat} {l : List D} : (∀ d ∈ l, Okn n d) → Okn (n + 1) (.lst l)
theorem pds_map : ∀ l : List D, pds l = l.map D.pd
  | [] => by rw [pds] <;> rfl
  | d :: l => by rw [pds, pds_map l] <;> rfl
theorem plains_all : ∀ l : List D, plains l = l.all D.plain
  | [] => by rw [plains] <;> rfl
  | d :: l => by rw [plains, plains_all l] <;> rfl
theorem canLayAll_all : ∀ l : List PyData, PyData.canLayAll0 l = l.all PyData.canLay0
  | [] => by rw [PyData.canLayAll0] <;> rfl
  | d :: l => by rw [PyData.canLayAll0, canLayAll_all l] <;> rfl
theorem depthAll_le {n : Nat} : ∀ {l : List PyData}, (∀ d ∈ l, d.depth ≤ n) → PyData.depthAll l ≤ n
  | [], _ => by rw [PyData.depthAll]; exact Nat.zero_le _
  | d :: l, h => by
    rw [PyData.depthAll]
    exact Nat.max_le.mpr ⟨h d List.mem_cons_self, depthAll_le fun e he => h e (List.mem_cons_of_mem _ he)⟩
theorem Okn.all {n : Nat} {d : D} (h : Okn n d) : d.plain = true ∧ d.pd.canLay0 = true ∧ d.pd.depth ≤ n := by
  induction h with
  | non => refine ⟨?_, ?_, ?_⟩ <;> simp [D.plain, D.pd, PyData.canLay0, PyData.depth]
  | bl b => refine ⟨?_, ?_, ?_⟩ <;> simp [D.plain, D.pd, PyData.canLay0, PyData.depth]
  | int i => refine ⟨?_, ?_, ?_⟩ <;> simp [D.plain, D.pd, PyData.canLay0, PyData.depth]
  | str hs => refine ⟨?_, ?_, ?_⟩ <;> simp [D.plain, D.pd, PyData.canLay0, PyData.depth, hs]
  | @tup n l _ ih =>
    refine ⟨?_, ?_, ?_⟩
    · rw [D.plain, plains_all, List.all_eq_true]
      exact fun d hd => (ih d hd).1
    · rw [D.pd, PyData.canLay0, canLayAll_all, pds_map, List.all_eq_true]
      intro d hd
      obtain ⟨e, he, rfl⟩ := List.mem_map.mp hd
      exact (ih e he).2.1
    · rw [D.pd, PyData.depth, pds_map]
      exact Nat.succ_le_succ (depthAll_le fun d hd => by
        obtain ⟨e, he, rfl⟩ := List.mem_map.mp hd
        exact (ih e he).2.2)
  | @lst n l _ ih =>
    refine ⟨?_, ?_, ?_⟩
    · rw [D.plain, plains_all, List.all_eq_true]
      exact fun d hd => (ih d hd).1
    · rw [D.pd, PyData.canLay0, canLayAll_all, pds_map, List.all_eq_true]
      intro d hd
      obtain ⟨e, he, rfl⟩ := List.mem_map.mp hd
      exact (ih e he).2.1
    · rw [D.pd, PyData.depth, pds_map]
      exact Nat.succ_le_succ (depthAll_le fun d hd => by
        obtain ⟨e, he, rfl⟩ := List.mem_map.mp hd
        exact (ih e he).2.2)
theorem Okn.ok {n : Nat} {d : D} (h : Okn n d) (hn : n ≤ 64 := by decide) : d.ok = true := by
  obtain ⟨h1, h2, h3⟩ := h.all
  unfold D.ok SeqAt.shaped
  rw [h1, h2, decide_eq_true (Nat.le_trans h3 hn)] <;> rfl
theorem Okn.mono {n m : Nat} {d : D} (h : Okn n d) (hn : n ≤ m) : Okn m d := by
  induction h generalizing m with
  | non => exact .non
  | bl b => exact .bl b
  | int i => exact .int i
  | str h => exact .str h
  | tup _ ih =>
    cases m with
    | zero => omega
    | succ m => exact .tup fun d hd => ih d hd (by omega)
  | lst _ ih =>
    cases m with
    | zero => omega
    | succ m => exact .lst fun d hd => ih d hd (by omega)
theorem Okn.lmap {α : Type} {n : Nat} {f : α → D} {as : List α} (h : ∀ a ∈ as, Okn n (f a)) : Okn (n + 1) (.lst (as.map f)) := .lst fun d hd => by
  obtain ⟨a, ha, rfl⟩ := List.mem_map.mp hd
  exact h a ha
theorem Okn.tmap {α : Type} {n : Nat} {f : α → D} {as : List α} (h : ∀ a ∈ as, Okn n (f a)) : Okn (n + 1) (.tup (as.map f)) := .tup fun d hd => by
  obtain ⟨a, ha, rfl⟩ := List.mem_map.mp hd
  exact h a ha
theorem Okn.nilL {n : Nat} : Okn (n + 1) (.lst []) := .lst fun d hd => by simp at hd
theorem Okn.nilT {n : Nat} : Okn (n + 1) (.tup []) := .tup fun d hd => by simp at hd
theorem eqv_refl {n : Nat} {d : D} (h : Okn n d) : d.eqv d = true := SeqAt.eqv_refl _ h.all.2.1
theorem eqv_nilL (l : List D) : (D.lst l).eqv (.lst []) = l.isEmpty := by
  unfold D.eqv
  rw [D.pd, D.pd, pds_map, pds_map, PyData.eqv]
  cases l with
  | nil => rw [List.map_nil, PyData.eqvAll] <;> rfl
  | cons d l => rw [List.map_cons, List.map_nil, PyData.eqvAll] <;> rfl
/-- data of one kind, told apart -/
def Inj {α : Type} [DecidableEq α] (f : α → D) : Prop := ∀ a b, (f a).eqv (f b) = decide (a = b)
theorem inj_int : Inj D.int := fun a b => by
  unfold D.eqv
  rw [D.pd, D.pd, PyData.eqv]
  exact Bool.beq_eq_decide_eq a b
theorem inj_str : Inj D.str := fun a b => by
  unfold D.eqv
  rw [D.pd, D.pd, PyData.eqv]
  exact Bool.beq_eq_decide_eq a b
theorem eqvAll_map {α : Type} [DecidableEq α] {f : α → D} (h : Inj f) : ∀ as bs : List α, PyData.eqvAll (as.map fun a => (f a).pd) (bs.map fun a => (f a).pd) = decide (as = bs)
  | [], [] => by rw [List.map_nil, PyData.eqvAll] <;> rfl
  | [], b :: bs => by rw [List.map_nil, List.map_cons, PyData.eqvAll] <;> simp
  | a :: as, [] => by rw [List.map_nil, List.map_cons, PyData.eqvAll] <;> simp
  | a :: as, b :: bs => by
    rw [List.map_cons, List.map_cons, PyData.eqvAll, eqvAll_map h as bs]
    have e : PyData.eqv (f a).pd (f b).pd = decide (a = b) := h a b
    rw [e]
    by_cases h1 : a = b <;> by_cases h2 : as = bs <;> simp [h1, h2]
theorem inj_lst {α : Type} [DecidableEq α] {f : α → D} (h : Inj f) : Inj fun as : List α => D.lst (as.map f) := fun as bs => by
  unfold D.eqv
  rw [D.pd, D.pd, pds_map, pds_map, PyData.eqv, List.map_map, List.map_map]
  exact eqvAll_map h as bs
theorem inj_tup {α : Type} [DecidableEq α] {f : α → D} (h : Inj f) : Inj fun as : List α => D.tup (as.map f) := fun as bs => by
  unfold D.eqv
  rw [D.pd, D.pd, pds_map, pds_map, PyData.eqv, List.map_map, List.map_map]
  exact eqvAll_map h as bs
/-! cells: a number or None -/
def cellD : Option Int → D
  | none => .non
  | some i => .int i
theorem inj_cell : Inj cellD := fun a b => by
  unfold D.eqv
  cases a with
  | none => cases b with
    | none => rw [cellD, D.pd, PyData.eqv] <;> rfl
    | some j => rw [cellD, cellD, D.pd, D.pd, PyData.eqv] <;> rfl
  | some i => cases b with
    | none => rw [cellD, cellD, D.pd, D.pd, PyData.eqv] <;> rfl
    | some j =>
      have h := inj_int i j
      unfold D.eqv at h
      rw [cellD, cellD, h]
      simp
theorem okn_cell {n : Nat} (a : Option Int) : Okn n (cellD a) := by
  cases a with
  | none => exact .non
  | some i => exact .int i
/-- an item of a written list -/
theorem atI_lt {α : Type} {l : List α} {i : Int} (h0 : 0 ≤ i) (h1 : i < l.length) : L2.atI l i = some (l[i.toNat]'(by omega)) := by
  unfold L2.atI L2.ixN
  rw [if_pos h0, if_pos h1]
  show l[i.toNat]? = _
  rw [List.getElem?_eq_getElem]
theorem atI_is {α : Type} {l : List α} {i : Int} (n : Nat) {a : α} (e : i = (n : Int)) (h : l[n]? = some a) : L2.atI l i = some a := by rw [e]; exact atI_nat h
theorem atI_of {α : Type} {l : List α} {n : Nat} {a : α} (h : l[n]? = some a) : L2.atI l (n : Int) = some a := atI_nat h
section
variable {X : Cx} {N : List Str} {sc : Scope} {ρ : Rho} {M : Mem} {P : D → Mem → Prop} {T : Bool → Mem → Prop} {a b : Expr} {pos : Pos}
theorem EM.add (h : EM X a ρ M fun d M1 => EM X b ρ M1 fun e M2 => RAdd d e M2 P) : EM X (.BinOp a .Add b pos) ρ M P := EM.op op_addA dAdd h
theorem EM.sub (h : EM X a ρ M fun d M1 => EM X b ρ M1 fun e M2 => RSub d e M2 P) : EM X (.BinOp a .Sub b pos) ρ M P := EM.op op_sub dSub h
theorem EM.mul (h : EM X a ρ M fun d M1 => EM X b ρ M1 fun e M2 => RMul d e M2 P) : EM X (.BinOp a .Mult b pos) ρ M P := EM.op op_mul dMul h
theorem EM.mod (h : EM X a ρ M fun d M1 => EM X b ρ M1 fun e M2 => RMod d e M2 P) : EM X (.BinOp a .Mod b pos) ρ M P := EM.op op_mod dMod h
theorem EM.fdiv (h : EM X a ρ M fun d M1 => EM X b ρ M1 fun e M2 => RDiv d e M2 P) : EM X (.BinOp a .FloorDiv b pos) ρ M P := EM.op op_fdiv dDiv h
theorem EM.pow (h : EM X a ρ M fun d M1 => EM X b ρ M1 fun e M2 => RPow d e M2 P) : EM X (.BinOp a .Pow b pos) ρ M P := EM.op op_pow dPow h
theorem EM.lt (h : EM X a ρ M fun d M1 => EM X b ρ M1 fun e M2 => RLt d e M2 P) : EM X (.Compare a [.Lt] [b] pos) ρ M P := EM.cmp op_lt dLt h (nomark _)
theorem TM.lt (h : EM X a ρ M fun d M1 => EM X b ρ M1 fun e M2 => RLt d e M2 fun z M3 => ∃ k, z = .bl k ∧ T k M3) : TM X (.Compare a [.Lt] [b] pos) ρ M T := TM.cmp op_lt dLt h (nomark _)
theorem EM.le (h : EM X a ρ M fun d M1 => EM X b ρ M1 fun e M2 => RLe d e M2 P) : EM X (.Compare a [.LtE] [b] pos) ρ M P := EM.cmp op_le dLe h (nomark _)
theorem TM.le (h : EM X a ρ M fun d M1 => EM X b ρ M1 fun e M2 => RLe d e M2 fun z M3 => ∃ k, z = .bl k ∧ T k M3) : TM X (.Compare a [.LtE] [b] pos) ρ M T := TM.cmp op_le dLe h (nomark _)
theorem EM.gt (h : EM X a ρ M fun d M1 => EM X b ρ M1 fun e M2 => RGt d e M2 P) : EM X (.Compare a [.Gt] [b] pos) ρ M P := EM.cmp op_gt dGt h (nomark _)
theorem TM.gt (h : EM X a ρ M fun d M1 => EM X b ρ M1 fun e M2 => RGt d e M2 fun z M3 => ∃ k, z = .bl k ∧ T k M3) : TM X (.Compare a [.Gt] [b] pos) ρ M T := TM.cmp op_gt dGt h (nomark _)
theorem EM.ge (h : EM X a ρ M fun d M1 => EM X b ρ M1 fun e M2 => RGe d e M2 P) : EM X (.Compare a [.GtE] [b] pos) ρ M P := EM.cmp op_ge dGe h (nomark _)
theorem TM.ge (h : EM X a ρ M fun d M1 => EM X b ρ M1 fun e M2 => RGe d e M2 fun z M3 => ∃ k, z = .bl k ∧ T k M3) : TM X (.Compare a [.GtE] [b] pos) ρ M T := TM.cmp op_ge dGe h (nomark _)
theorem EM.eq (hu : X.A.units + 64 < cLine) (h : EM X a ρ M fun d M1 => EM X b ρ M1 fun e M2 => REq d e M2 P) : EM X (.Compare a [.Eq] [b] pos) ρ M P := EM.cmp (op_eqA hu) dEq h (nomark _)
theorem TM.eq (hu : X.A.units + 64 < cLine) (h : EM X a ρ M fun d M1 => EM X b ρ M1 fun e M2 => REq d e M2 fun z M3 => ∃ k, z = .bl k ∧ T k M3) : TM X (.Compare a [.Eq] [b] pos) ρ M T := TM.cmp (op_eqA hu) dEq h (nomark _)
theorem EM.ne (hu : X.A.units + 64 < cLine) (h : EM X a ρ M fun d M1 => EM X b ρ M1 fun e M2 => RNe d e M2 P) : EM X (.Compare a [.NotEq] [b] pos) ρ M P := EM.cmp (op_neA hu) dNe h (nomark _)
theorem TM.ne (hu : X.A.units + 64 < cLine) (h : EM X a ρ M fun d M1 => EM X b ρ M1 fun e M2 => RNe d e M2 fun z M3 => ∃ k, z = .bl k ∧ T k M3) : TM X (.Compare a [.NotEq] [b] pos) ρ M T := TM.cmp (op_neA hu) dNe h (nomark _)
theorem EM.isN (h : EM X a ρ M fun d M1 => EM X b ρ M1 fun e M2 => RIsN d e M2 P) : EM X (.Compare a [.Is] [b] pos) ρ M P := EM.cmp op_isN dIsN h (nomark _)
theorem TM.isN (h : EM X a ρ M fun d M1 => EM X b ρ M1 fun e M2 => RIsN d e M2 fun z M3 => ∃ k, z = .bl k ∧ T k M3) : TM X (.Compare a [.Is] [b] pos) ρ M T := TM.cmp op_isN dIsN h (nomark _)
theorem EM.notN (h : EM X a ρ M fun d M1 => EM X b ρ M1 fun e M2 => RNotN d e M2 P) : EM X (.Compare a [.IsNot] [b] pos) ρ M P := EM.cmp op_notN dNotN h (nomark _)
theorem TM.notN (h : EM X a ρ M fun d M1 => EM X b ρ M1 fun e M2 => RNotN d e M2 fun z M3 => ∃ k, z = .bl k ∧ T k M3) : TM X (.Compare a [.IsNot] [b] pos) ρ M T := TM.cmp op_notN dNotN h (nomark _)
end

section
variable {X : Cx} {N : List Str} {sc : Scope} {ρ : Rho} {M : Mem} {P : D → Mem → Prop} {a b : Expr} {pos p1 p2 : Pos}
/-- a built-in's name as a value -/
theorem EM.bltn {x : Str} {v : V} {u : Value} (c : Ctx X N sc) (hm : X.mg x = none) (hv : bootBuiltins x = some u) (rv : RelV v u) (p : P (.raw v) M) (hg : glB sc x = true := by decide +kernel) (hn : x ≠ "__name__" := by decide +kernel) (hd : (x == ("__debug__" : Str)) = false := by decide +kernel) : EM X (.Name x pos) ρ M P := ⟨fun F σ B H hr hx Q q =>
  WE.of (pe_bltn (c.gl x hg) hm hv rv hn hd) (q _ M v B H p (Same.refl B) hx (.raw v))⟩
/-- isinstance of built-in classes -/
def isi (t n : String) : Bool := t == n || (t == "bool" && n == "int")
def sixTy : List String := ["NoneType", "bool", "int", "str", "tuple", "list"]
def fiveTy : List String := ["bool", "int", "str", "tuple", "list"]
theorem kit_all : ∀ t ∈ sixTy, ∀ n ∈ fiveTy, kitB t n = some (isi t n) := by decide +kernel
def D.tyMs (d : D) (M : Mem) (t : String) : Prop := t ∈ sixTy ∧ d.tyM M t
theorem tyMs_of {d : D} {M : Mem} {t : String} (h : d.ty = some t) : d.tyMs M t := by
  refine ⟨?_, .inl h⟩
  cases d <;> simp [D.ty] at h <;> subst h <;> decide
theorem EM.isi {x : Str} {n : String} (c : Ctx X N sc) (hm : X.mg "isinstance" = none) (hmx : X.mg x = none) (hv : bootBuiltins x = some (.type n)) (hn : n ∈ fiveTy) (h : EM X a ρ M fun d M1 => ∃ t, d.tyMs M1 t ∧ P (.bl (Dl.isi t n)) M1) (hgx : glB sc x = true := by decide +kernel) (hnx : x ≠ "__name__" := by decide +kernel) (hdx : (x == ("__debug__" : Str)) = false := by decide +kernel)
    (hg : glB sc "isinstance" = true := by decide +kernel) (he : starEach (a :: [.Name x p2]) X.env = (false, eval a X.env) :: starEach [.Name x p2] X.env := by rfl) :
    EM X (.Call (.Name "isinstance" p1) [a, .Name x p2] [] pos) ρ M P := by
  refine EM.callB c call_isiB dIsi hm PyProof.Rows.boot_isinstance (AM.cons (h.to fun d M1 ⟨t, ht, hP⟩ => AM.cons (EM.bltn (v := .ty n) c hmx hv rfl (AM.nil ?_) hgx hnx hdx)) he) hg (by decide +kernel) (by decide +kernel) he
  exact ⟨d, _, t, _, rfl, ht.2, hP, .inl ⟨n, rfl, kit_all t ht.1 n hn⟩⟩
end

section
variable {X : Cx} {N : List Str} {sc : Scope} {ρ : Rho} {M : Mem} {P : D → Mem → Prop} {T : Bool → Mem → Prop} {a b c : Expr} {pos : Pos}
/-- a <= b <= c, a <= b < c of ints -/
theorem EM.chLeLe (h : EM X a ρ M fun d M1 => EM X b ρ M1 fun e M2 => RLe d e M2 fun z M3 => ∃ k, z = .bl k ∧ if k = true then EM X c ρ M3 (fun g M4 => RLe e g M4 P) else P (.bl false) M3) (hm : lastMarks [CmpOp.LtE, CmpOp.LtE] [b, c] = false := by with_unfolding_all rfl) : EM X (.Compare a [.LtE, .LtE] [b, c] pos) ρ M P := EM.chain op_le op_le dLe dLe h hm
theorem TM.chLeLe (h : EM X a ρ M fun d M1 => EM X b ρ M1 fun e M2 => RLe d e M2 fun z M3 => ∃ k, z = .bl k ∧ if k = true then EM X c ρ M3 (fun g M4 => RLe e g M4 fun z M5 => ∃ k, z = .bl k ∧ T k M5) else ∃ k, D.bl false = .bl k ∧ T k M3) (hm : lastMarks [CmpOp.LtE, CmpOp.LtE] [b, c] = false := by with_unfolding_all rfl) : TM X (.Compare a [.LtE, .LtE] [b, c] pos) ρ M T := TM.chain op_le op_le dLe dLe h hm
theorem EM.chLeLt (h : EM X a ρ M fun d M1 => EM X b ρ M1 fun e M2 => RLe d e M2 fun z M3 => ∃ k, z = .bl k ∧ if k = true then EM X c ρ M3 (fun g M4 => RLt e g M4 P) else P (.bl false) M3) (hm : lastMarks [CmpOp.LtE, CmpOp.Lt] [b, c] = false := by with_unfolding_all rfl) : EM X (.Compare a [.LtE, .Lt] [b, c] pos) ρ M P := EM.chain op_le op_lt dLe dLt h hm
theorem TM.chLeLt (h : EM X a ρ M fun d M1 => EM X b ρ M1 fun e M2 => RLe d e M2 fun z M3 => ∃ k, z = .bl k ∧ if k = true then EM X c ρ M3 (fun g M4 => RLt e g M4 fun z M5 => ∃ k, z = .bl k ∧ T k M5) else ∃ k, D.bl false = .bl k ∧ T k M3) (hm : lastMarks [CmpOp.LtE, CmpOp.Lt] [b, c] = false := by with_unfolding_all rfl) : TM X (.Compare a [.LtE, .Lt] [b, c] pos) ρ M T := TM.chain op_le op_lt dLe dLt h hm
end
/-- a text in a tuple or a list of texts -/
def RInS (neg : Bool) : DR := fun d e M P => ∃ (s : Str) (ss : List Str), d = .str s ∧ (e = .tup (ss.map D.str) ∨ e = .lst (ss.map D.str)) ∧ P (.bl (if neg then !decide (s ∈ ss) else decide (s ∈ ss))) M
def RInI (neg : Bool) : DR := fun d e M P => ∃ (s : Int) (ss : List Int), d = .int s ∧ (e = .tup (ss.map D.int) ∨ e = .lst (ss.map D.int)) ∧ P (.bl (if neg then !decide (s ∈ ss) else decide (s ∈ ss))) M
theorem inV_str (s : Str) : ∀ ss : List Str, inV (.str s) (ss.map V.str) = decide (s ∈ ss)
  | [] => rfl
  | x :: ss => by
    have ih := inV_str s ss
    unfold inV at ih ⊢
    rw [List.map_cons, List.any_cons, ih]
    have e : eqV (.str x) (.str s) = decide (x = s) := by
      unfold eqV
      first | rfl | simp [V.str.injEq]
    rw [e]
    by_cases h : x = s
    · subst h; simp
    · have h2 : ¬ s = x := fun q => h q.symm
      simp [h, h2]
theorem inV_int (s : Int) : ∀ ss : List Int, inV (.int s) (ss.map V.int) = decide (s ∈ ss)
  | [] => rfl
  | x :: ss => by
    have ih := inV_int s ss
    unfold inV at ih ⊢
    rw [List.map_cons, List.any_cons, ih]
    have e : eqV (.int x) (.int s) = decide (x = s) := by
      unfold eqV
      first | rfl | simp [V.int.injEq]
    rw [e]
    by_cases h : x = s
    · subst h; simp
    · have h2 : ¬ s = x := fun q => h q.symm
      simp [h, h2]
theorem flat_strs : ∀ ss : List Str, (ss.map V.str).all flatV = true
  | [] => rfl
  | s :: ss => by rw [List.map_cons, List.all_cons, flat_strs ss] <;> rfl
theorem flat_ints : ∀ ss : List Int, (ss.map V.int).all flatV = true
  | [] => rfl
  | s :: ss => by rw [List.map_cons, List.all_cons, flat_ints ss] <;> rfl
theorem dInS {K : PySem.W.Frag} (neg : Bool) : DOp K (rIn K neg) (RInS neg) := by
  intro F B M H x y d e P Q hx r1 r2 hR q
  obtain ⟨s, ss, rfl, he, hP⟩ := hR
  cases r1
  have fin := q _ M _ B H hP (Same.refl B) hx (.bl _)
  rcases he with rfl | rfl
  · cases r2 with
    | tup a rs =>
      have e := rs.strsOf
      subst e
      exact ⟨_, _, rfl, .inr (tupAt_mono hx.fr a).sq, rfl, flat_strs _, by rw [inV_str]; exact fin⟩
  · cases r2 with
    | lst a rs =>
      have e := rs.strsOf
      subst e
      exact ⟨_, _, rfl, .inl (SqL.of (hx.fr _ _ a)), rfl, flat_strs _, by rw [inV_str]; exact fin⟩
theorem dInI {K : PySem.W.Frag} (neg : Bool) : DOp K (rIn K neg) (RInI neg) := by
  intro F B M H x y d e P Q hx r1 r2 hR q
  obtain ⟨s, ss, rfl, he, hP⟩ := hR
  cases r1
  have fin := q _ M _ B H hP (Same.refl B) hx (.bl _)
  rcases he with rfl | rfl
  · cases r2 with
    | tup a rs =>
      have e := rs.intsOf
      subst e
      exact ⟨_, _, rfl, .inr (tupAt_mono hx.fr a).sq, rfl, flat_ints _, by rw [inV_int]; exact fin⟩
  · cases r2 with
    | lst a rs =>
      have e := rs.intsOf
      subst e
      exact ⟨_, _, rfl, .inl (SqL.of (hx.fr _ _ a)), rfl, flat_ints _, by rw [inV_int]; exact fin⟩
section
variable {X : Cx} {N : List Str} {sc : Scope} {ρ : Rho} {M : Mem} {P : D → Mem → Prop} {T : Bool → Mem → Prop} {a b : Expr} {pos : Pos}
theorem TM.niS (h : EM X a ρ M fun d M1 => EM X b ρ M1 fun e M2 => RInS true d e M2 fun z M3 => ∃ k, z = .bl k ∧ T k M3) (hm : behindInMarks .NotIn b = false := by rfl) : TM X (.Compare a [.NotIn] [b] pos) ρ M T := TM.cmp op_notIn_seq (dInS true) h hm
theorem TM.inS (h : EM X a ρ M fun d M1 => EM X b ρ M1 fun e M2 => RInS false d e M2 fun z M3 => ∃ k, z = .bl k ∧ T k M3) (hm : behindInMarks .In b = false := by rfl) : TM X (.Compare a [.In] [b] pos) ρ M T := TM.cmp op_in_seq (dInS false) h hm
theorem TM.niI (h : EM X a ρ M fun d M1 => EM X b ρ M1 fun e M2 => RInI true d e M2 fun z M3 => ∃ k, z = .bl k ∧ T k M3) (hm : behindInMarks .NotIn b = false := by rfl) : TM X (.Compare a [.NotIn] [b] pos) ρ M T := TM.cmp op_notIn_seq (dInI true) h hm
/-- the module's ints and tuples of texts -/
def KI (mg : Str → Option Value) (x : Str) (i : Int) : Prop := ∃ t, mg x = some (.int i t)
def KT (K : PySem.W.Frag) (mg : Str → Option Value) (x : Str) (ss : List Str) : Prop := ∃ a, mg x = some (.ref a) ∧ ∀ B, Rep K B (.ref a) (.tup (ss.map D.str))
theorem EM.gint {x : Str} {i : Int} (c : Ctx X N sc) (k : KI X.mg x i) (p : P (.int i) M) (hg : glB sc x = true := by decide +kernel) (hd : (x == ("__debug__" : Str)) = false := by decide +kernel) : EM X (.Name x pos) ρ M P := by
  obtain ⟨t, k⟩ := k
  exact EM.glob (v := .int i) c k ⟨t, rfl⟩ (fun B => .int i) p hg hd
theorem EM.gtup {x : Str} {ss : List Str} (c : Ctx X N sc) (k : KT X.K X.mg x ss) (p : P (.tup (ss.map D.str)) M) (hg : glB sc x = true := by decide +kernel) (hd : (x == ("__debug__" : Str)) = false := by decide +kernel) : EM X (.Name x pos) ρ M P := by
  obtain ⟨a, k, r⟩ := k
  exact EM.glob (v := .ref a) c k rfl r p hg hd
end
end Dl
namespace Dl
open PySem PySem.Spec PyProof.Rows L2
/-! ### methods, instances -/
structure Gm (P : Program) (w : World) (K : PySem.W.Frag) (mg : Str → Option Value) (base : Heap) (C : Addr) (m : Str) (k : Nat) (ps : List Str) (S : DA) : Prop where
  ex : ∃ (f : Addr) (fd : FuncData), FnOk P w K mg base CX0 k f fd ps (spD K S) ∧ Meth K C m f ∧ Binds K fd ps []
  mono : DMono S
  cl : Cls K C
/-- the class at C is made by its __init__, which does S -/
structure Gk (P : Program) (w : World) (K : PySem.W.Frag) (mg : Str → Option Value) (base : Heap) (x : Str) (C : Addr) (k : Nat) (ps : List Str) (S : DA) : Prop where
  ex : ∃ (f : Addr) (fd : FuncData), FnOk P w K mg base CX0 k f fd ps (spD K S) ∧ Mk K C f ∧ Binds K fd ps [] ∧ mg x = some (.ref C)
  mono : DMono S
section
variable {X : Cx} {N : List Str} {sc scope : Scope} {ρ ρ' ρw : Rho} {M : Mem} {P : D → Mem → Prop} {e a b c o : Expr} {es : List Expr} {pos apos : Pos}
theorem EM.meth {C : Addr} {m : Str} {k j : Nat} {ps : List Str} {S : DA} {pl : Sem Bool} (hr : Room j X.A) (G : Gm X.prog X.w X.K X.mg X.base C m k ps S)
    (h : EM X o ρ M fun d M1 => ∃ (p : Addr) (i : Nat) (fs : List (Str × D)), d = .raw (.ref p) ∧ M1[i]? = some (p, MO.ins C fs) ∧ fs.lookup m = none ∧ AM X (e :: es) ρ M1 fun ds M2 => ∃ Ma Mb, M2 = Ma ++ Mb ∧ S (.raw (.ref p) :: ds) Ma fun z M' => P z (M' ++ Mb)) (hk : k ≤ j := by decide)
    (hst : starEach (e :: es) X.env = (false, eval e X.env) :: starEach es X.env := by rfl) (hpl : (backTo pos (starEach es X.env)).any (·.1) = false := by rfl)
    (ht : eval (.Call (.Attribute o m apos) (e :: es) [] pos) X.env = (do
      let ov ← eval o X.env
      standAt apos.atName
      let (f, first) ← holding [ov] (getMethod ov m pl)
      callWith pos f first (backTo pos (starEach (e :: es) X.env)) (backToKw pos (keywordEach [] X.env))) := by rfl) : EM X (.Call (.Attribute o m apos) (e :: es) [] pos) ρ M P := ⟨fun F σ B H hρ hx Q q => by
  obtain ⟨f, fd, g, hm, hb⟩ := G.ex
  refine WE.of (pe_meth (pl := pl) WE.pe G.cl hm g (hr.mono hk) hb .nil pass0 WA.pa hst hpl ht) (h F σ B H hρ hx _ fun d M1 v B1 H1 ⟨p, i, fs, e1, e2, e3, h1⟩ s1 x1 r1 => ?_)
  subst e1
  cases r1
  obtain ⟨ob, a1, a2, _⟩ := x1.at (at_app e2)
  cases a2 with
  | @ins _ dx vs _ rf =>
    refine ⟨p, dx, vs, rfl, a1, rf.look0 e3, h1 F σ B1 H1 (hρ.mono s1) x1 _ fun ds M2 vs B2 H2 ⟨Ma, Mb, e4, h2⟩ s2 x2 r2 => ?_⟩
    subst e4
    show spD X.K S (V.ref p :: (vs ++ [])) H2 Q E0
    rw [List.append_nil]
    rw [List.append_assoc] at x2
    exact ⟨Mb ++ F, B2, Ma, _, .cons (.raw _) r2, x2, G.mono _ Ma _ _ (fun d M' p v B' H' s x r => q d (M' ++ Mb) v B' H' p (s1.trans (s2.trans s)) (by rw [List.append_assoc]; exact x) r) h2⟩⟩
theorem EM.meth0 {C : Addr} {m : Str} {k j : Nat} {ps : List Str} {S : DA} {pl : Sem Bool} (hr : Room j X.A) (G : Gm X.prog X.w X.K X.mg X.base C m k ps S)
    (h : EM X o ρ M fun d M1 => ∃ (p : Addr) (i : Nat) (fs : List (Str × D)), d = .raw (.ref p) ∧ M1[i]? = some (p, MO.ins C fs) ∧ fs.lookup m = none ∧ ∃ Ma Mb, M1 = Ma ++ Mb ∧ S [.raw (.ref p)] Ma fun z M' => P z (M' ++ Mb)) (hk : k ≤ j := by decide)
    (ht : eval (.Call (.Attribute o m apos) [] [] pos) X.env = (do
      let ov ← eval o X.env
      standAt apos.atName
      let (f, first) ← holding [ov] (getMethod ov m pl)
      callWith pos f first (backTo pos (starEach [] X.env)) (backToKw pos (keywordEach [] X.env))) := by rfl) : EM X (.Call (.Attribute o m apos) [] [] pos) ρ M P := ⟨fun F σ B H hρ hx Q q => by
  obtain ⟨f, fd, g, hm, hb⟩ := G.ex
  refine WE.of (pe_meth0 (pl := pl) WE.pe G.cl hm g (hr.mono hk) hb .nil pass0 ht) (h F σ B H hρ hx _ fun d M1 v B1 H1 ⟨p, i, fs, e1, e2, e3, Ma, Mb, e4, h2⟩ s1 x1 r1 => ?_)
  subst e1 e4
  cases r1
  obtain ⟨ob, a1, a2, _⟩ := x1.at (at_app e2)
  cases a2 with
  | @ins _ dx vs _ rf =>
    refine ⟨p, dx, vs, rfl, a1, rf.look0 e3, ?_⟩
    show spD X.K S [V.ref p] H1 Q E0
    rw [List.append_assoc] at x1
    exact ⟨Mb ++ F, B1, Ma, _, .cons (.raw _) .nil, x1, G.mono _ Ma _ _ (fun d M' p v B' H' s x r => q d (M' ++ Mb) v B' H' p (s1.trans s) (by rw [List.append_assoc]; exact x) r) h2⟩⟩
theorem EM.make {x : Str} {C : Addr} {k j : Nat} {ps : List Str} {S : DA} {p : Pos} (cx : Ctx X N sc) (hr : Room j X.A) (G : Gk X.prog X.w X.K X.mg X.base x C k ps S)
    (h : AM X (e :: es) ρ M fun ds M1 => ∀ p, S (.raw (.ref p) :: ds) [(p, MO.ins C [])] fun z M' => z = .non ∧ P (.raw (.ref p)) (M' ++ M1)) (hk : k + 1 ≤ j := by decide)
    (hg : glB sc x = true := by decide +kernel) (hdb : (x == ("__debug__" : Str)) = false := by decide +kernel)
    (he : starEach (e :: es) X.env = (false, eval e X.env) :: starEach es X.env := by rfl) (hpl : (backTo pos (starEach es X.env)).any (·.1) = false := by rfl) : EM X (.Call (.Name x p) (e :: es) [] pos) ρ M P := ⟨fun F σ B H hρ hx Q q => by
  obtain ⟨f, fd, g, hm, hb, hmg⟩ := G.ex
  refine WE.of (pe_make hm g (hr.mono hk) (cx.gl x hg) hmg hb .nil pass0 WA.pa hdb he hpl) (h F σ B H hρ hx _ fun ds M1 vs B1 H1 h1 s1 x1 r1 => ?_)
  intro y dx hy hdx ne
  show spD X.K S (V.ref y :: (vs ++ [])) _ _ E0
  rw [List.append_nil]
  have x2 : Holds X.K B1 ((y, MO.ins C []) :: (M1 ++ F)) (L2.upd (L2.upd H1 dx (.own y)) y (.ins C dx [])) := (x1.junk hdx).alloc (by rw [upd_ne ne.symm]; exact hy) (.ins .nil)
  exact ⟨M1 ++ F, B1, [(y, MO.ins C [])], _, .cons (.raw _) r1, x2, G.mono _ _ _ _ (fun d M' ⟨e1, p⟩ v B' H' s x r => by
    subst e1
    cases r
    exact ⟨rfl, q _ (M' ++ M1) _ B' H' p (s1.trans s) (by rw [List.append_assoc]; exact x) (.raw _)⟩) (h1 y)⟩⟩
/-- [..] * n, a new list -/
theorem EM.repM (h : EM X a ρ M fun d M1 => EM X b ρ M1 fun e M2 => RRepM d e M2 P) : EM X (.BinOp a .Mult b pos) ρ M P := EM.op op_rep dRepM h
/-- xs + ys, a new list -/
theorem EM.catM (h : EM X a ρ M fun d M1 => EM X b ρ M1 fun e M2 => RCatM d e M2 P) : EM X (.BinOp a .Add b pos) ρ M P := EM.op op_cat dCatM h
theorem EM.catT (h : EM X a ρ M fun d M1 => EM X b ρ M1 fun e M2 => RCatT d e M2 P) : EM X (.BinOp a .Add b pos) ρ M P := EM.op op_catT dCatT h
/-- xs[:n] -/
theorem EM.sliceHi {p2 : Pos} (h : EM X a ρ M fun d M1 => EM X b ρ M1 fun e M2 => ∃ (l : List D) (n : Nat), d = .lst l ∧ e = .int (n : Int) ∧ P (.lst (l.take n)) M2) : EM X (.Subscript a (.Slice none (some b) none p2) pos) ρ M P := ⟨fun F σ B H hρ hx Q q =>
  WE.of (pe_slice sl_list WE.pe po_none (po_some WE.pe)) (h F σ B H hρ hx _ fun d M1 v B1 H1 h1 s1 x1 r1 => h1 F σ B1 H1 (hρ.mono s1) x1 _ fun e M2 w B2 H2 ⟨l, n, e1, e2, h2⟩ s2 x2 r2 => by
    subst e1 e2
    cases r2
    cases r1 with
    | @lst a xs _ hl rs =>
      refine ⟨_, rfl, a, xs, rfl, SqL.of (x2.fr _ _ (s2 _ _ hl)), fun p hp => ?_⟩
      have e3 : cutV xs none (some (n : Int)) = xs.take n := by
        unfold cutV
        rw [HT.sIx_none, HT.sIx_nat, List.drop_zero, Nat.sub_zero]
        by_cases hn : n ≤ xs.length
        · rw [Nat.min_eq_left hn]
        · rw [Nat.min_eq_right (by omega), List.take_length, List.take_of_length_le (by omega)]
      rw [e3]
      have s3 : Same B2 (L2.upd B2 p (.lst (xs.take n))) := Same.upd (x2.free hp)
      exact q _ M2 _ _ _ h2 (s1.trans (s2.trans s3)) (x2.new hp) (.lst upd_same ((rs.take n).mono (s2.trans s3))))⟩
/-- what nobody asks for any more is left -/
theorem EM.less (h : EM X e ρ M fun d M' => ∃ M2 : Mem, M2.Sublist M' ∧ P d M2) : EM X e ρ M P := ⟨fun F σ B H hr hx Q q => h F σ B H hr hx Q fun d M' v B' H' ⟨M2, hs, hp⟩ s x r => q d M2 v B' H' hp s (x.sub (hs.append (List.Sublist.refl F))) r⟩
/-- two memories beside one another, told in another order -/
theorem EM.perm {M' : Mem} (h : EM X e ρ M' P) (k : M'.Perm M) : EM X e ρ M P := ⟨fun F σ B H hr hx Q q => h F σ B H hr (hx.perm (k.append_right F)) Q q⟩
end

section
variable {X : Cx} {N : List Str} {sc scope : Scope} {ρ ρ' ρw : Rho} {M : Mem} {P : D → Mem → Prop} {O : Out} {e a b c o elt iter : Expr} {es : List Expr} {pos px py spos : Pos} {α : Type} {x y : Str}
/-- y = [elt for x in as], a list that may change -/
theorem S1.setMapM (c : Ctx X N sc) (hw : Wp N ρ [x] ρw) (h : IW X (.Name x px) iter ρ M fun l M1 => ∃ (as : List α) (g h : α → D), l = as.map g ∧ as.length ≤ 10000000 ∧ (∀ a ∈ as, ∃ ρ', Put N ρw x (some (g a)) ρ' ∧ ∀ s H0 C cl fp, EM (Bk X scope s H0 C cl fp) elt ρ' M1 fun y M3 => y = h a ∧ M3 = M1) ∧ ∀ p, ∃ ρ', Put N ρ y (some (.raw (.ref p))) ρ' ∧ O.nx ρ' ((p, .lst (as.map h)) :: M1))
    (hk : chk N sc scope [x] = true := by decide +kernel) (hl : locB scope x = true := by decide +kernel) (hkd : scope.kind = .function := by rfl)
    (hin : N.contains y = true := by decide +kernel) (hly : lclB sc y = true := by decide +kernel) (hln : (py.line == pos.line) = true := by rfl) (hna : (scope.names.any fun (n, k) => n == y && (k == .local || k == .cell)) = false := by decide +kernel)
    (hs : ∀ x, foldedSetIterable iter X.env x = pure x := by intro _; rfl) : S1 X (.Assign [.Name y py] (.ListComp elt [⟨.Name x px, iter, [], 0⟩] scope pos) spos) ρ M O := by
  refine S1.setLc c [x] hw ?_ hk hin hly hln hna hs
  obtain ⟨wi, hp, hi⟩ := h
  refine ⟨wi, hp, fun F σ B H hr hx R hR => hi F σ B H hr hx R fun l J M1 B1 H1 hL => hR l J M1 B1 H1 ?_⟩
  obtain ⟨as, g, h, rfl, hz, turn, fin⟩ := hL
  refine ⟨by rw [List.length_map]; exact Nat.le_trans hz (by decide), fun i acc M' => M' = M1 ∧ acc = (as.take i).map h, ⟨rfl, rfl⟩, ?_, ?_⟩
  · rintro i d acc M' hd ⟨rfl, rfl⟩
    rw [List.getElem?_map] at hd
    cases ea : as[i]? with
    | none => rw [ea] at hd; cases hd
    | some a =>
      rw [ea] at hd
      cases hd
      obtain ⟨ρ', hput, hel⟩ := turn a (List.mem_of_getElem? ea)
      refine ⟨ρ', [x], fun _ h => h, fun s H0 C cl fp => GM.name (c.blk hkd) hput hl, ?_⟩
      dsimp only [T0]
      rw [if_pos rfl]
      intro s H0 C cl fp
      refine (hel s H0 C cl fp).to fun y M3 ⟨e1, e2⟩ => ⟨e2, ?_⟩
      rw [e1, List.take_add_one, ea, List.map_append] <;> rfl
  · rintro acc M' p ⟨rfl, rfl⟩
    rw [List.length_map, List.take_length]
    exact fin p
/-- xs.append(e), xs.extend(es) of a list that may change -/
theorem EM.append {apos : Pos} (h : EM X o ρ M fun d M1 => tyList d M1 ∧ EM X e ρ M1 fun z M2 => RAppend d [z] M2 P)
    (hbase : attributeBase o "append" X.env (eval o X.env) = eval o X.env := by rfl)
    (hfew : ((backTo pos (starEach [e] X.env)).all (fun x => !x.1) && (backToKw pos (keywordEach [] X.env)).all (fun x => x.1.isSome)
      && decide ([e].length + ([] : List Keyword).length + (if ([] : List Keyword).isEmpty then 0 else 1) < 30)) = true := by rfl)
    (hline : (apos.endLine == pos.line) = true := by rfl) (hs : starEach [e] X.env = [(false, eval e X.env)] := by rfl) : EM X (.Call (.Attribute o "append" apos) [e] [] pos) ρ M P :=
  EM.bm PySem.F.plainAttrs_list PySem.F.slot_list_append PySem.F.type_list_append mt_append dAppend (h.to fun d M1 ⟨t, h1⟩ => ⟨t, AM.cons (h1.to fun z M2 h2 => AM.nil h2) hs⟩) hbase hfew hline hs
theorem EM.extend {apos : Pos} (h : EM X o ρ M fun d M1 => tyList d M1 ∧ EM X e ρ M1 fun z M2 => RExtend d [z] M2 P)
    (hbase : attributeBase o "extend" X.env (eval o X.env) = eval o X.env := by rfl)
    (hfew : ((backTo pos (starEach [e] X.env)).all (fun x => !x.1) && (backToKw pos (keywordEach [] X.env)).all (fun x => x.1.isSome)
      && decide ([e].length + ([] : List Keyword).length + (if ([] : List Keyword).isEmpty then 0 else 1) < 30)) = true := by rfl)
    (hline : (apos.endLine == pos.line) = true := by rfl) (hs : starEach [e] X.env = [(false, eval e X.env)] := by rfl) : EM X (.Call (.Attribute o "extend" apos) [e] [] pos) ρ M P :=
  EM.bm PySem.F.plainAttrs_list PySem.F.slot_list_extend PySem.F.type_list_extend mt_extend dExtend (h.to fun d M1 ⟨t, h1⟩ => ⟨t, AM.cons (h1.to fun z M2 h2 => AM.nil h2) hs⟩) hbase hfew hline hs
end
end Dl
namespace Dl
open PySem PySem.Spec PyProof.Rows L2
/-! ### more: joins, tuple(range(n)), (x,) * n, tuple + tuple -/
section
variable {X : Cx} {N : List Str} {sc scope : Scope} {ρ ρ' ρw : Rho} {M : Mem} {P : D → Mem → Prop} {O : Out} {e a b c o : Expr} {es : List Expr} {pos apos p1 p2 : Pos} {st : Stmt} {rest body orelse : List Stmt}
/-- ways that meet again -/
theorem S1.join (J : Rho → Mem → Prop) (h : S1 X st ρ M { O with nx := J }) (k : ∀ ρ M, J ρ M → O.nx ρ M) : S1 X st ρ M O := ⟨fun F σ B H hr hx Dn g =>
  h F σ B H hr hx Dn ⟨fun _ _ _ _ _ p => g.nx _ _ _ _ _ (k _ _ p), fun _ _ _ _ _ p => g.rt _ _ _ _ _ p, fun _ _ _ _ _ p => g.bk _ _ _ _ _ p, fun _ _ _ _ _ p => g.ct _ _ _ _ _ p⟩⟩
/-- an expression whose ways meet again -/
theorem EM.join (J : D → Mem → Prop) (h : EM X e ρ M J) (k : ∀ d M, J d M → P d M) : EM X e ρ M P := h.to k
theorem rg_rep {K : PySem.W.Frag} {B : Hp} {n : Int} : Reps K B (L2.rgV 0 n) (rngD 0 n.toNat) := by
  unfold L2.rgV rngD
  rw [Int.sub_zero]
  generalize n.toNat = m
  have : ∀ l : List Nat, Reps K B (l.map fun i => V.int ((0 : Int) + (i : Nat))) (l.map fun k => D.int ((0 : Int) + (k : Nat))) := fun l => by
    induction l with
    | nil => exact .nil
    | cons x l ih => exact .cons (.int _) ih
  exact this _
/-- tuple(range(n)) -/
theorem EM.tupRg (c : Ctx X N sc) (hm : X.mg "tuple" = none) (hmr : X.mg "range" = none) (h : EM X a ρ M fun d M1 => ∃ n : Int, d = .int n ∧ (0 ≤ n ∧ n ≤ 1000) ∧ P (.tup (rngD 0 n.toNat)) M1)
    (hg : glB sc "tuple" = true := by decide +kernel) (hgr : glB sc "range" = true := by decide +kernel) (na : starEach [a] X.env = (false, eval a X.env) :: starEach [] X.env := by rfl)
    (na2 : starEach [.Call (.Name "range" p2) [a] [] apos] X.env = (false, eval (.Call (.Name "range" p2) [a] [] apos) X.env) :: starEach [] X.env := by rfl) : EM X (.Call (.Name "tuple" p1) [.Call (.Name "range" p2) [a] [] apos] [] pos) ρ M P := ⟨fun F σ B H hr hx Q q =>
  WE.of (pe_tupRg c.calm (c.gl _ hg) hm (prg_1 (c.gl _ hgr) hmr WE.pe na) na2) (h F σ B H hr hx _ fun d M1 v B1 H1 ⟨n, e1, b1, h1⟩ s x r => by
    subst e1
    cases r
    refine ⟨n, rfl, RgOk.of_le (by omega) (by omega) (by omega) (by omega), fun p hp => ?_⟩
    have s2 : Same B1 (L2.upd B1 p (.tup (rgV 0 n))) := Same.upd (x.free hp)
    exact q _ M1 _ _ _ h1 (s.trans s2) (x.new hp) (.tup (.inl upd_same) rg_rep))⟩
/-- list(range(n)): a new list -/
theorem EM.lstRg (c : Ctx X N sc) (hm : X.mg "list" = none) (hmr : X.mg "range" = none) (h : EM X a ρ M fun d M1 => ∃ n : Int, d = .int n ∧ (0 ≤ n ∧ n ≤ 1000) ∧ P (.lst (rngD 0 n.toNat)) M1)
    (hg : glB sc "list" = true := by decide +kernel) (hgr : glB sc "range" = true := by decide +kernel) (na : starEach [a] X.env = (false, eval a X.env) :: starEach [] X.env := by rfl)
    (na2 : starEach [.Call (.Name "range" p2) [a] [] apos] X.env = (false, eval (.Call (.Name "range" p2) [a] [] apos) X.env) :: starEach [] X.env := by rfl) : EM X (.Call (.Name "list" p1) [.Call (.Name "range" p2) [a] [] apos] [] pos) ρ M P := ⟨fun F σ B H hr hx Q q =>
  WE.of (pe_listRg c.calm (c.gl _ hg) hm (prg_1 (c.gl _ hgr) hmr WE.pe na) na2) (h F σ B H hr hx _ fun d M1 v B1 H1 ⟨n, e1, b1, h1⟩ s x r => by
    subst e1
    cases r
    refine ⟨n, rfl, RgOk.of_le (by omega) (by omega) (by omega) (by omega), fun p hp => ?_⟩
    have s2 : Same B1 (L2.upd B1 p (.lst (rgV 0 n))) := Same.upd (x.free hp)
    exact q _ M1 _ _ _ h1 (s.trans s2) (x.new hp) (.lst upd_same rg_rep))⟩
/-- t + u, of tuples of any length -/
def RCatA : DR := fun d e M P => match d, e with
  | .tup l, .tup m => l.length + m.length ≤ sizeLine ∧ P (.tup (l ++ m)) M
  | _, _ => False
theorem dCatA {K : PySem.W.Frag} : DOp K (rCatA K) RCatA := by
  intro F B M H x y d e P Q hx r1 r2 hR q
  cases d <;> cases e <;> try exact hR.elim
  cases r1 with
  | @tup _ xs _ h1 rs =>
    cases r2 with
    | @tup _ ys _ h2 rt =>
      obtain ⟨h4, h5⟩ := hR
      refine ⟨_, _, _, _, rfl, rfl, (tupAt_mono hx.fr h1).sq, (tupAt_mono hx.fr h2).sq, by rw [rs.length, rt.length]; exact h4, fun z => ?_, fun _ z => ?_, fun _ z p hp => ?_⟩
      · subst z
        cases rs
        exact q _ M _ B H h5 (Same.refl B) hx (.tup h2 rt)
      · subst z
        cases rt
        refine q _ M _ B H h5 (Same.refl B) hx ?_
        rw [List.append_nil]
        exact .tup h1 rs
      · have s : Same B (L2.upd B p (.tup (xs ++ ys))) := Same.upd (hx.free hp)
        exact q _ M _ _ _ h5 s (hx.new hp) (.tup (.inl upd_same) ((rs.append rt).mono s))
theorem EM.catA (h : EM X a ρ M fun d M1 => EM X b ρ M1 fun e M2 => RCatA d e M2 P) : EM X (.BinOp a .Add b pos) ρ M P := EM.op op_catA dCatA h
end
theorem tuple_mul1 (l : Addr) (items : Array Value) (n : Nat) (dd : Option Addr) (sl : Array (Option Value)) (u : Tok) :
    Meets (Builtin.«tuple.__mul__» ⟨[.ref l, .int 1 u], []⟩) (fun _ R s => s.heap.get? l = some { cls := .type "tuple", dict := dd, data := .seq items n, slots := sl } ∧
      R (.ok (.ret (Value.ref l))) s) :=
  .of_wp fun prog w A R s h => by
    obtain ⟨hp, g, d, tk, os⟩ := s
    obtain ⟨hl, h⟩ := h
    have f1 := AutoSeq1.idx_int
    wp_walk using wpAny_loadPart' hl
    repeat (first
      | (refine wpAny_ite_false (decide_eq_false (show ¬ ((decide ((1 : Int) < -(2 ^ 63)) || decide ((1 : Int) ≥ 2 ^ 63)) = true) by decide)) ?_; wp_walk using wpAny_loadPart' hl)
      | (refine wpAny_ite_true (decide_eq_true (show (items.isEmpty || (1 : Int) == 1) = true by simp)) ?_; wp_walk using wpAny_loadPart' hl))
    exact ⟨_, rfl, h⟩
def rRepT1 (K : PySem.W.Frag) : R2 := fun x y H Q => ∃ l xs, x = .ref l ∧ y = .int 1 ∧ SqT K H l xs ∧ Q (.ref l) H
theorem op_repT1 {X : Cx} : OpR X (binaryOp .Mult) (rRepT1 X.K) := by
  intro pins s σ H x y v u Q I rx ry h
  obtain ⟨l, xs, rfl, rfl, hT, q⟩ := h
  cases rx
  obtain ⟨t, rfl⟩ := ry
  obtain ⟨its, r, ⟨⟨cls, dd, data, sl⟩, ho, hc, n, hd⟩, hs⟩ := I.tuple hT
  simp only at hc hd
  subst hc hd
  exact wpAny_binaryOp_repeat_ref (T := "tuple") (U := "int") (by decide) ⟨_, ho, rfl⟩ (fun s' => typeIs_int s' 1 t) noFill_tuple_mul F.fills_int_mul F.slot_int_rmul repeat_tuple F.slot_int_index.lookup
    (call_meets F.slot_int_rmul (typeIs_int s 1 t) F.entry_int_rmul (F.args_int_rmul_2 _ _) (int_rmul_tuple 1 t l its.toArray n dd sl)
      ⟨ho, rfl, ⟨_, ho, rfl⟩, call_meets F.slot_tuple_mul ⟨_, ho, rfl⟩ F.entry_tuple_mul (F.args_tuple_mul_2 _ _) (tuple_mul1 l its.toArray n dd sl t) ⟨ho, ⟨.ref l, H, I, rfl, q⟩⟩⟩)
def rRepA (K : PySem.W.Frag) : R2 := fun x y H Q => rRepT K x y H Q ∨ rRepT1 K x y H Q
/-- (x,) * n -/
def RRepT : DR := fun d e M P => match d, e with
  | .tup l, .int k => l ≠ [] ∧ 1 ≤ k ∧ k ≤ 1000 ∧ l.length ≤ 1000 ∧ P (.tup (List.replicate k.toNat l).flatten) M
  | _, _ => False
theorem dRepT {K : PySem.W.Frag} : DOp K (rRepA K) RRepT := by
  intro F B M H x y d e P Q hx r1 r2 hR q
  match d, e, hR with
  | .tup l, .int k, hR =>
    obtain ⟨h2, h3, h4, h5, h6⟩ := hR
    cases r2
    cases r1 with
    | @tup a xs _ h1 rs =>
      have hz := rs.length
      by_cases hk : k = 1
      · subst hk
        refine .inr ⟨_, xs, rfl, rfl, (tupAt_mono hx.fr h1).sq, q _ M _ B H h6 (Same.refl B) hx ?_⟩
        show Rep K B _ (.tup (List.replicate 1 l).flatten)
        rw [List.replicate_one, List.flatten_singleton]
        exact .tup h1 rs
      · refine .inl ⟨_, _, xs, rfl, rfl, (tupAt_mono hx.fr h1).sq, fun z => ?_, by omega, h4, by omega, fun p hp => ?_⟩
        · subst z
          cases rs
          exact h2 rfl
        · have s : Same B (L2.upd B p (.tup (List.replicate k.toNat xs).flatten)) := Same.upd (hx.free hp)
          exact q _ M _ _ _ h6 s (hx.new hp) (.tup (.inl upd_same) ((rs.flat _).mono s))
section
variable {X : Cx} {N : List Str} {sc scope : Scope} {ρ ρ' ρw : Rho} {M : Mem} {P : D → Mem → Prop} {O : Out} {e a b c o : Expr} {es : List Expr} {pos apos p1 p2 : Pos} {st : Stmt} {rest body orelse : List Stmt}
theorem EM.repT (h : EM X a ρ M fun d M1 => EM X b ρ M1 fun e M2 => RRepT d e M2 P) : EM X (.BinOp a .Mult b pos) ρ M P := EM.op (op_repT.or op_repT1) dRepT h
end
theorem atI_mem {l : List D} {v : Int} (h0 : 0 ≤ v) (h1 : v < (l.length : Int)) : ∃ d ∈ l, L2.atI l v = some d := by
  have hl : v.toNat < l.length := by omega
  exact ⟨l[v.toNat], List.getElem_mem hl, atI_is v.toNat (by omega) (List.getElem?_eq_getElem hl)⟩
theorem rngD_map (n : Nat) : rngD 0 n = ((List.range n).map fun k : Nat => ((k : Nat) : Int)).map D.int := by
  unfold rngD
  rw [List.map_map]
  refine List.map_congr_left fun k _ => ?_
  show D.int ((0 : Int) + (k : Nat)) = D.int (k : Nat)
  rw [Int.zero_add]
theorem mapSt_all {α β S : Type} {f : S → α → β × S} {Q : β → Prop} (h : ∀ s a, Q (f s a).1) : ∀ (as : List α) (s : S), ∀ x ∈ (mapSt f s as).1, Q x
  | [], s, x, hx => by cases hx
  | a :: as, s, x, hx => by
    unfold mapSt at hx
    rcases List.mem_cons.mp hx with rfl | hx
    · exact h s a
    · exact mapSt_all h as _ x hx
theorem atI_last {α : Type} {l : List α} {z : α} : L2.atI (l ++ [z]) (-1) = some z := by
  unfold L2.atI L2.ixN
  rw [List.length_append]
  rw [if_neg (by decide), if_pos (by show -(((l.length + 1 : Nat)) : Int) ≤ -1; omega)]
  show (l ++ [z])[((-1 : Int) + ((l.length + 1 : Nat) : Int)).toNat]? = some z
  rw [show ((-1 : Int) + ((l.length + 1 : Nat) : Int)).toNat = l.length from by omega, List.getElem?_append_right (Nat.le_refl _), Nat.sub_self] <;> rfl
end Dl
namespace Dl
open PySem PySem.Spec PyProof.Rows L2
/-! ### dicts whose keys are tuples of any depth -/
mutual
def D.keyd : D → Bool
  | .non => true
  | .int _ => true
  | .str _ => true
  | .tup l => keyds l
  | _ => false
def keyds : List D → Bool
  | [] => true
  | d :: l => d.keyd && keyds l
end
mutual
def D.key : D → NestedKey
  | .int i => .num i
  | .str x => .text x
  | .tup l => .tup (keysD l)
  | _ => .none
def keysD : List D → List NestedKey
  | [] => []
  | d :: l => d.key :: keysD l
end
section
variable {X : Cx} {pins : List (Addr × Obj)} {σ : L2.St} {H : Hp} {s : Shared}
mutual
theorem Rep.nested (I : Inv X pins σ H s) : ∀ {v : V} {d : D} {u : Value}, Rep X.K H v d → d.keyd = true → RelV v u → NestedIs s.heap d.key u
  | _, _, u, .non, _, r => by cases (show u = Value.none from r); show NestedIs _ D.non.key _; rw [show D.non.key = NestedKey.none from by simp [D.key]]; exact .none
  | _, _, u, .bl b, h, _ => by simp [D.keyd] at h
  | _, _, u, .int i, _, r => by
    obtain ⟨t, rfl⟩ := (show ∃ t, u = Value.int i t from r)
    rw [D.key]; exact .int i t
  | _, _, u, .str x, _, r => by
    obtain ⟨t, rfl⟩ := (show ∃ t, u = Value.str x t from r)
    rw [D.key]; exact .text x t
  | _, _, u, .tup (a := a) h rs, hk, r => by
    cases (show u = Value.ref a from r)
    obtain ⟨its, rv, ⟨o, e1, e2, n, e3⟩, _⟩ := I.tuple h.sq
    rw [D.key]
    exact .tup e1 e2 e3 (by simpa using Reps.nested I rs (by rw [D.keyd] at hk; exact hk) rv)
  | _, _, u, .lst _ _, h, _ => by simp [D.keyd] at h
  | _, _, u, .scr _, h, _ => by simp [D.keyd] at h
  | _, _, u, .raw _, h, _ => by simp [D.keyd] at h
theorem Reps.nested (I : Inv X pins σ H s) : ∀ {vs : List V} {ds : List D} {us : List Value}, Reps X.K H vs ds → keyds ds = true → Vals vs us → NestedAll s.heap (keysD ds) us
  | _, _, us, .nil, _, r => by cases r; rw [keysD]; exact .nil
  | _, _, us, .cons h t, hk, r => by
    rw [keyds, Bool.and_eq_true] at hk
    cases r with
    | cons r1 r2 =>
      rw [keysD]
      exact .cons (Rep.nested I h hk.1 r1) (Reps.nested I t hk.2 r2)
end
/-- the dict at d -/
def isDic (P : Program) (w : World) (d : Addr) (xs : List (NestedKey × Addr × Value)) (h : Heap) : Prop :=
  (d == sysModules) = false ∧ ∃ o es ep, h.get? d = some o ∧ o.ExactDict ∧ o.data = .dict es ep ∧ es.toList = xs.map (entryOfKey (nestedKind P w)) ∧ (xs.map (·.1)).Nodup
/-- the key at a -/
def KeyAt (K : PySem.W.Frag) (B : Hp) (k : NestedKey) (a : Addr) : Prop := ∃ e : D, e.keyd = true ∧ e.key = k ∧ k.depth ≤ 8 ∧ Rep K B (.ref a) e
theorem KeyAt.mono {K : PySem.W.Frag} {B B' : Hp} {k : NestedKey} {a : Addr} (s : Same B B') : KeyAt K B k a → KeyAt K B' k a := fun ⟨e, h1, h2, h3, h4⟩ => ⟨e, h1, h2, h3, h4.mono s⟩
theorem KeyAt.is (I : Inv X pins σ H s) {k : NestedKey} {a : Addr} (h : KeyAt X.K H k a) : (nestedKind X.prog X.w).is s.heap k a := by
  obtain ⟨e, h1, h2, h3, h4⟩ := h
  exact ⟨h2 ▸ h4.nested I h1 rfl, h3⟩
theorem dic_of (I : Inv X pins σ H s) {a : Addr} {xs : List (NestedKey × Addr × Value)} (e : H a = some (.ext (isDic X.prog X.w a xs))) (h : ∀ x ∈ xs, KeyAt X.K H x.1 x.2.1) : (a == sysModules) = false ∧ s.heap.DictOfH (nestedKind X.prog X.w) a xs := by
  obtain ⟨⟨hd, o, es, ep, h1, h2, h3, h4, h5⟩, _⟩ := (show ObjOk X.prog X.w H s.heap a (.ext (isDic X.prog X.w a xs)) from I.hok a _ e)
  exact ⟨hd, o, es, ep, h1, h2, h3, h4, fun x hx => (h x hx).is I, h5⟩
theorem dic_new {P : Program} {w : World} {H' : Hp} {h' : Heap} {a : Addr} {xs : List (NestedKey × Addr × Value)} (hd : (a == sysModules) = false) (dd : h'.DictOfH (nestedKind P w) a xs) : ObjOk P w H' h' a (.ext (isDic P w a xs)) := by
  obtain ⟨o, es, ep, h1, h2, h3, h4, _, h5⟩ := dd
  exact ⟨⟨hd, o, es, ep, h1, h2, h3, h4, h5⟩, ⟨o, h1⟩, fun g1 g2 ⟨k1, o1, es1, ep1, q1, q2⟩ st => ⟨k1, o1, es1, ep1, st _ q1, q2⟩⟩
theorem atKey_isSome {xs : List (NestedKey × Addr × Value)} {k : NestedKey} : (atKey xs k).isSome = decide (k ∈ xs.map (·.1)) := by
  induction xs with
  | nil => rfl
  | cons x xs ih =>
    by_cases h : x.1 = k
    · simp [atKey, h]
    · have h2 : ¬ k = x.1 := fun e => h e.symm
      have e1 : atKey (x :: xs) k = atKey xs k := by simp [atKey, h]
      rw [e1, ih, List.map_cons]
      exact decide_eq_decide.mpr ⟨fun h3 => List.mem_cons_of_mem _ h3, fun h3 => (List.mem_cons.mp h3).resolve_left h2⟩
/-- k not in d -/
def rNiN (P : Program) (w : World) (K : PySem.W.Frag) : R2 := fun x y H Q => ∃ (a b : Addr) (xs : List (NestedKey × Addr × Value)) (k : NestedKey), x = .ref b ∧ y = .ref a ∧ H a = some (.ext (isDic P w a xs)) ∧ KeyAt K H k b ∧ (∀ x ∈ xs, KeyAt K H x.1 x.2.1) ∧ Q (.bl (!decide (k ∈ xs.map (·.1)))) H
theorem op_niN (hu : X.A.units + 64 < cLine) : OpR X (compareOp .NotIn) (rNiN X.prog X.w X.K) := by
  intro pins s σ H x y v u Q I rx ry h
  obtain ⟨a, b, xs, k, rfl, rfl, e, hk, hx, q⟩ := h
  cases rx
  cases ry
  obtain ⟨hd, dd⟩ := dic_of I e hx
  refine wpAny_notIn_heap (knd := nestedKind X.prog X.w) (show X.A.in1.units + 8 < cLine by show X.A.units + 1 + 8 < cLine; omega) (hk.is I) hd dd ?_
  rw [atKey_isSome]
  exact ⟨.bl _, H, I.tok _, rfl, q⟩
end
/-- a dict that may change, by its keys -/
def dicOk (P : Program) (w : World) (K : PySem.W.Frag) (d : Addr) (ks : List NestedKey) : Hp → HO → Prop := fun B o => ∃ xs : List (NestedKey × Addr × Value), o = .ext (isDic P w d xs) ∧ xs.map (·.1) = ks ∧ ∀ x ∈ xs, KeyAt K B x.1 x.2.1
theorem dicOk_mono {P : Program} {w : World} {K : PySem.W.Frag} {d : Addr} {ks : List NestedKey} {B : Hp} {o : HO} (h : dicOk P w K d ks B o) : ∀ B', Same B B' → dicOk P w K d ks B' o := fun B' s => by
  obtain ⟨xs, h1, h2, h3⟩ := h
  exact ⟨xs, h1, h2, fun x hx => (h3 x hx).mono s⟩
def dicM (P : Program) (w : World) (K : PySem.W.Frag) (d : Addr) (ks : List D) : Addr × MO := (d, .dic (dicOk P w K d (ks.map D.key)))
def RNiN (P : Program) (w : World) (K : PySem.W.Frag) : DR := fun d e M Q => ∃ (p : Addr) (i : Nat) (ks : List D) (l : List D), d = .tup l ∧ e = .raw (.ref p) ∧ M[i]? = some (dicM P w K p ks) ∧ d.keyd = true ∧ d.key.depth ≤ 8 ∧ Q (.bl (!decide (d.key ∈ ks.map D.key))) M
theorem dNiN {P : Program} {w : World} {K : PySem.W.Frag} : DOp K (rNiN P w K) (RNiN P w K) := by
  intro F B M H x y d e Q Q' hx r1 r2 hR q
  obtain ⟨p, i, ks, l, rfl, rfl, e3, e4, e5, h⟩ := hR
  cases r2
  obtain ⟨o, a1, a2, _⟩ := hx.at (at_app e3)
  cases r1 with
  | @tup b vs _ hb rs =>
    cases a2 with
    | dic hd _ _ =>
      obtain ⟨xs, rfl, h2, h3⟩ := hd
      refine ⟨p, b, xs, _, rfl, rfl, a1, ⟨_, e4, rfl, e5, (Rep.tup hb rs).mono hx.fr⟩, fun x hx1 => (h3 x hx1).mono hx.fr, ?_⟩
      rw [h2]
      exact q _ M _ B H h (Same.refl B) hx (.bl _)
section
variable {X : Cx} {N : List Str} {sc scope : Scope} {ρ ρ' ρw : Rho} {M : Mem} {P : D → Mem → Prop} {O : Out} {T : Bool → Mem → Prop} {e a b c o i value k v : Expr} {es : List Expr} {pos pos' apos p1 p2 : Pos} {st : Stmt} {rest body orelse : List Stmt}
theorem TM.niN (hu : X.A.units + 64 < cLine) (h : EM X a ρ M fun d M1 => EM X b ρ M1 fun e M2 => RNiN X.prog X.w X.K d e M2 fun z M3 => ∃ k, z = .bl k ∧ T k M3) (hm : behindInMarks .NotIn b = false := by rfl) : TM X (.Compare a [.NotIn] [b] pos) ρ M T := TM.cmp (op_niN hu) dNiN h hm
/-- {} -/
theorem EM.dic0 (h : ∀ p, P (.raw (.ref p)) (dicM X.prog X.w X.K p [] :: M)) : EM X (.Dict [] [] pos) ρ M P := ⟨fun F σ B H hr hx Q q => by
  intro pins s I
  have hn := I.hok.fresh (Nat.le_refl s.heap.objs.size)
  have I1 := I.laid (a := s.heap.objs.size) (o := .ext (isDic X.prog X.w s.heap.objs.size [])) (h' := s.heap.push { cls := .type "dict", data := .dict #[] }) (t' := s.toks) (fun _ _ q => Heap.get?_push_of_some _ q) (Nat.le_refl _)
    (dic_new (beq_eq_false_iff_ne.mpr (Ne.symm (Nat.ne_of_lt I.big))) (Heap.DictOfH.new s.heap))
  refine wpAny_Dict_empty ⟨.ref s.heap.objs.size, _, I1, rfl, q _ _ _ _ _ (h s.heap.objs.size) (Same.refl B) (hx.alloc hn (.dic ⟨[], rfl, rfl, fun x hx => nomatch hx⟩ (fun B' s => dicOk_mono ⟨[], rfl, rfl, fun x hx => nomatch hx⟩ B' s) (fun xs e => by cases e))) (.raw _)⟩⟩
end
section
variable {X : Cx}
def tDic1 (P : Program) (w : World) (K : PySem.W.Frag) (tk tv : TE) : TE := fun σ H Q => ∀ p, H p = none → tk σ (L2.upd H p (.ext (isDic P w p []))) fun kv H1 => ∃ (b : Addr) (key : NestedKey), kv = .ref b ∧ tv σ H1 fun vv H2 => H2 p = some (.ext (isDic P w p [])) ∧ KeyAt K H2 key b ∧ ∀ u : Value, Q (.ref p) (L2.upd H2 p (.ext (isDic P w p [(key, b, u)])))
theorem pe_dic1 {k v : Expr} {pos : Pos} {tk tv : TE} (hu : X.A.units + 64 < cLine) (hk : PE X k tk) (hv : PE X v tv) : PE X (.Dict [some k] [v] pos) (tDic1 X.prog X.w X.K tk tv) := by
  refine ⟨fun pins s σ H Q I h => ?_⟩
  have hn := I.hok.fresh (Nat.le_refl s.heap.objs.size)
  have hd : (s.heap.objs.size == sysModules) = false := beq_eq_false_iff_ne.mpr (Ne.symm (Nat.ne_of_lt I.big))
  have I1 := I.laid (a := s.heap.objs.size) (o := .ext (isDic X.prog X.w s.heap.objs.size [])) (h' := s.heap.push { cls := .type "dict", data := .dict #[] }) (t' := s.toks) (fun _ _ q => Heap.get?_push_of_some _ q) (Nat.le_refl _)
    (dic_new hd (Heap.DictOfH.new s.heap))
  rw [arm_eval_Dict, zip_pairTrees [some k] [v] X.env pos rfl rfl, dictDisplay_pairs (pairTrees [some k] [v] X.env pos) (by intro e; cases e) (by show 1 < 17; decide)]
  refine wpAny_bind (wpAny_standAt (wpAny_bind (wpAny_subDictH (knd := nestedKind X.prog X.w) (Q := fun d s' => wpAny (model X.prog X.w) X.A (pure (Value.ref d)) _ _ s') (show X.A.units + 8 < cLine by omega) (by show 1 ≤ 15; decide) ?_)))
  refine pairTrees_cons_walk (thn (hk.run pins _ σ _ _ I1 (h _ hn)) fun u s1 ⟨x, H1, I2, rx, b, key, ex, q1⟩ => thn (hv.run pins s1 σ H1 _ I2 q1) fun w2 s2 ⟨y, H2, I3, ry, e2, hk2, q2⟩ => pairTrees_nil_walk ?_)
  subst ex
  cases (show u = Value.ref b from rx)
  refine ⟨[(key, b, w2)], ⟨rfl, rfl, hk2.is I3, trivial⟩, (dic_of I3 e2 (fun x hx => nomatch hx)).2, fun h' tk dd hs => wpAny_pure ?_⟩
  have dd : h'.DictOfH (nestedKind X.prog X.w) s.heap.objs.size [(key, b, w2)] := dd
  have he : ∃ q, h'.get? s.heap.objs.size = some q := let ⟨q, _, _, hq, _⟩ := dd; ⟨q, hq⟩
  exact ⟨.ref s.heap.objs.size, _, d_write I3 (by rw [e2]; exact True.intro) hs he (dic_new hd dd), rfl, q2 w2⟩
/-- d[k] = v, k not in d -/
def sPutN (P : Program) (w : World) (K : PySem.W.Frag) (td ty tv : TE) : TS := fun D σ H => tv σ H fun v H1 => td σ H1 fun x H2 => ty σ H2 fun y H3 => ∃ (a b : Addr) (xs : List (NestedKey × Addr × Value)) (k : NestedKey), x = .ref a ∧ y = .ref b ∧ H3 a = some (.ext (isDic P w a xs)) ∧ KeyAt K H3 k b ∧ (∀ x ∈ xs, KeyAt K H3 x.1 x.2.1) ∧ k ∉ xs.map (·.1) ∧ xs.length ≤ sizeLine ∧ ∀ u : Value, D.nx σ (L2.upd H3 a (.ext (isDic P w a (xs ++ [(k, b, u)]))))
theorem ps_putN {o i value : Expr} {pos pos' : Pos} {td ty tv : TE} (hu : X.A.units + 64 < cLine) (ho : PE X o td) (hi : PE X i ty) (hv : PE X value tv) (hs : swapsWith value (some (.Subscript o i pos')) pos.line X.env = pure false) : PS X (.Assign [.Subscript o i pos'] value pos) (sPutN X.prog X.w X.K td ty tv) := by
  refine ⟨fun pins s σ H D I h => ?_⟩
  refine wpAny_Assign_Subscript (thn (hv.run pins s σ H _ I h) fun r s1 ⟨v, H1, I1, rv, q1⟩ => thn (ho.run pins s1 σ H1 _ I1 q1) fun u s2 ⟨x, H2, I2, rx, q2⟩ => thn (hi.run pins s2 σ H2 _ I2 q2) fun iv s3 ⟨y, H3, I3, ry, a, b, xs, k, ex, ey, e, hk, hx, hn, hz, q3⟩ => ?_) hs
  subst ex ey
  cases (show u = Value.ref a from rx)
  cases (show iv = Value.ref b from ry)
  obtain ⟨hd, dd⟩ := dic_of I3 e hx
  refine wpAny_setItem_heap (hsz := hz) (knd := nestedKind X.prog X.w) (show X.A.in1.units + 8 < cLine by show X.A.units + 1 + 8 < cLine; omega) (hk.is I3) dd fun h' dd' hs => ?_
  have hnone : atKey xs k = none := by
    have h1 := atKey_isSome (xs := xs) (k := k)
    rw [decide_eq_false hn] at h1
    cases e1 : atKey xs k with
    | none => rfl
    | some z => rw [e1] at h1; cases h1
  rw [storedH_new hnone] at dd'
  have he : ∃ q, h'.get? a = some q := let ⟨q, _, _, hq, _⟩ := dd'; ⟨q, hq⟩
  exact ⟨σ, _, d_write I3 (by rw [e]; exact True.intro) hs he (dic_new hd dd'), q3 r⟩
end
section
variable {X : Cx} {N : List Str} {sc scope : Scope} {ρ ρ' ρw : Rho} {M : Mem} {P : D → Mem → Prop} {O : Out} {T : Bool → Mem → Prop} {e a b c o i value k v : Expr} {es : List Expr} {pos pos' apos p1 p2 : Pos} {st : Stmt} {rest body orelse : List Stmt}
/-- {k: v} -/
theorem EM.dic1 (hu : X.A.units + 64 < cLine) (h : ∀ p, EM X k ρ M fun d M1 => (∃ l, d = .tup l) ∧ d.keyd = true ∧ d.key.depth ≤ 8 ∧ EM X v ρ M1 fun _ M2 => P (.raw (.ref p)) (dicM X.prog X.w X.K p [d] :: M2)) : EM X (.Dict [some k] [v] pos) ρ M P := ⟨fun F σ B H hr hx Q q =>
  WE.of (pe_dic1 hu WE.pe WE.pe) fun p hp => by
    have x1 := hx.alloc (mo := .dic (dicOk X.prog X.w X.K p [])) hp (.dic ⟨[], rfl, rfl, fun x hx => nomatch hx⟩ (fun B' s => dicOk_mono ⟨[], rfl, rfl, fun x hx => nomatch hx⟩ B' s) (fun xs e => by cases e))
    have x2 : Holds X.K B (M ++ ((p, MO.dic (dicOk X.prog X.w X.K p [])) :: F)) (L2.upd H p (.ext (isDic X.prog X.w p []))) := x1.perm List.perm_middle
    refine (h p) _ σ B _ hr x2 _ fun d M1 kv B1 H1 ⟨⟨l, hl⟩, k1, k2, hv⟩ s1 y1 r1 => ?_
    subst hl
    cases r1 with
    | @tup b vs _ hb rs =>
      refine ⟨b, (D.tup l).key, rfl, hv _ σ B1 H1 (hr.mono s1) y1 _ fun _ M2 vv B2 H2 hP s2 y2 r2 => ?_⟩
      have y3 : Holds X.K B2 ((p, MO.dic (dicOk X.prog X.w X.K p [])) :: (M2 ++ F)) H2 := y2.perm List.perm_middle.symm
      obtain ⟨ob, a1, a2, _⟩ := y3.at (k := 0) rfl
      cases a2 with
      | dic hd0 _ _ =>
        obtain ⟨xs, rfl, h2, h3⟩ := hd0
        cases xs with
        | cons x xs => cases h2
        | nil =>
          have ka : KeyAt X.K B2 (D.tup l).key b := ⟨_, k1, rfl, k2, (Rep.tup hb rs).mono s2⟩
          refine ⟨a1, ka.mono y3.fr, fun u => ?_⟩
          have ok : dicOk X.prog X.w X.K p [(D.tup l).key] B2 (.ext (isDic X.prog X.w p [((D.tup l).key, b, u)])) := ⟨_, rfl, rfl, fun x hx => by
            have e : x = ((D.tup l).key, b, u) := by simpa using hx
            subst e
            exact ka⟩
          have y4 := y3.put (k := 0) rfl (mo' := .dic (dicOk X.prog X.w X.K p [(D.tup l).key])) (.dic ok (dicOk_mono ok) (fun xs e => by cases e))
          exact q _ _ _ B2 _ hP (s1.trans s2) y4 (.raw _)⟩
/-- d[k] = v, k not in d -/
theorem S1.putN (hu : X.A.units + 64 < cLine) (h : EM X value ρ M fun _ M1 => EM X o ρ M1 fun x M2 => EM X i ρ M2 fun d M3 => ∃ (p : Addr) (j : Nat) (ks : List D) (l : List D), x = .raw (.ref p) ∧ d = .tup l ∧ M3[j]? = some (dicM X.prog X.w X.K p ks) ∧ d.keyd = true ∧ d.key.depth ≤ 8 ∧ d.key ∉ ks.map D.key ∧ ks.length ≤ sizeLine ∧ O.nx ρ (M3.set j (dicM X.prog X.w X.K p (ks ++ [d]))))
    (hs : swapsWith value (some (.Subscript o i pos')) pos.line X.env = pure false := by rfl) : S1 X (.Assign [.Subscript o i pos'] value pos) ρ M O := ⟨fun F σ B H hr hx Dn g =>
  WS.of (ps_putN hu WE.pe WE.pe WE.pe hs) (h F σ B H hr hx _ fun d M1 v B1 H1 h1 s1 x1 r1 => h1 F σ B1 H1 (hr.mono s1) x1 _ fun x M2 ov B2 H2 h2 s2 x2 r2 => h2 F σ B2 H2 (hr.mono (s1.trans s2)) x2 _ fun dk M3 iv B3 H3 ⟨p, j, ks, l, e1, e2, e3, e4, e5, e6, e7, h3⟩ s3 x3 r3 => by
    subst e1 e2
    cases r2
    obtain ⟨ob, a1, a2, _⟩ := x3.at (at_app e3)
    cases r3 with
    | @tup b vs _ hb rs =>
      cases a2 with
      | dic hd0 _ _ =>
        obtain ⟨xs, rfl, g2, g3⟩ := hd0
        have ka : KeyAt X.K B3 (D.tup l).key b := ⟨_, e4, rfl, e5, .tup hb rs⟩
        have hl : xs.length = ks.length := by
          have := congrArg List.length g2
          rw [List.length_map, List.length_map] at this
          exact this
        refine ⟨p, b, xs, _, rfl, rfl, a1, ka.mono x3.fr, fun x hx1 => (g3 x hx1).mono x3.fr, by rw [g2]; exact e6, by omega, fun u => ?_⟩
        have ok : dicOk X.prog X.w X.K p ((ks ++ [D.tup l]).map D.key) B3 (.ext (isDic X.prog X.w p (xs ++ [((D.tup l).key, b, u)]))) := ⟨_, rfl, by rw [List.map_append, List.map_append, g2] <;> rfl, fun x hx => by
          rcases List.mem_append.mp hx with hx | hx
          · exact g3 x hx
          · have e : x = ((D.tup l).key, b, u) := by simpa using hx
            subst e
            exact ka⟩
        have x4 := x3.put (at_app e3) (mo' := .dic (dicOk X.prog X.w X.K p ((ks ++ [D.tup l]).map D.key))) (.dic ok (dicOk_mono ok) (fun xs e => by cases e))
        rw [set_app e3] at x4
        exact g.nx ρ _ σ B3 _ h3 (s1.trans (s2.trans s3)) (hr.mono (s1.trans (s2.trans s3))) x4)⟩
end
end Dl
namespace Dl
open PySem PySem.Spec PyProof.Rows L2
/-! ### targets that are attributes -/
section
variable {X : Cx} {N : List Str} {sc scope : Scope} {ρ ρ' ρw : Rho} {M : Mem} {P : Out} {e o : Expr} {es : List Expr} {pos pos' : Pos} {ta : TE} {f : Str}
def gFld (K : PySem.W.Frag) (ta : TE) (f : Str) : TG := fun y σ H Q => ta σ H fun x H2 => ∃ a C dx fs, x = .ref a ∧ H2 a = some (.ins C dx fs) ∧ Cls K C ∧ NoAttr K C f ∧ fs.length < 1000 ∧ Q σ (L2.upd H2 a (.ins C dx (putF f y fs)))
theorem pg_fld (ho : PE X o ta) : PG X (.Attribute o f pos) (gFld X.K ta f) := by
  refine ⟨fun pins s σ H v u Q I r h => ?_⟩
  have ha : assign (.Attribute o f pos) X.env u = (do
      let ov ← holding [u] (eval o X.env)
      standAt pos.atName
      holding [u, ov] (setAttr ov f u)
      release [u, ov] []) := by rfl
  rw [ha]
  refine wpAny_bind (wpAny_holding (thn (ho.run pins s σ H _ I h) fun ov s1 ⟨x, H1, I1, r1, a, C, dx, fs, ex, ea, c, n, l, q⟩ => ?_))
  subst ex
  obtain rfl : ov = Value.ref a := r1
  refine wpAny_bind (wpAny_standAt (wpAny_bind (wpAny_holding (setattr_ok I1 ea c n l r fun s3 I3 => ?_))))
  exact wpAny_release ⟨σ, _, I3, q⟩
/-- d goes to the target, which changes the memory -/
structure GX (X : Cx) (tg : Expr) (d : D) (ρ : Rho) (M : Mem) (P : Mem → Prop) : Prop where
  run : ∀ (F : Mem) (σ : L2.St) (B H : Hp) (v : V), EnvRep X.K B σ ρ → Holds X.K B (M ++ F) H → Rep X.K B v d → ∀ Q : L2.St → Hp → Prop, (∀ M' B' H', P M' → Same B B' → Holds X.K B' (M' ++ F) H' → Q σ H') → WG X tg v σ H Q
structure GXs (X : Cx) (ts : List Expr) (ds : List D) (ρ : Rho) (M : Mem) (P : Mem → Prop) : Prop where
  run : ∀ (F : Mem) (σ : L2.St) (B H : Hp) (vs : List V), EnvRep X.K B σ ρ → Holds X.K B (M ++ F) H → Reps X.K B vs ds → ∀ Q : L2.St → Hp → Prop, (∀ M' B' H', P M' → Same B B' → Holds X.K B' (M' ++ F) H' → Q σ H') → WGs X ts vs σ H Q
theorem GX.fld {d : D} {R : Mem → Prop} (h : EM X o ρ M fun l M2 => ∃ (p : Addr) (k : Nat) (C : Addr) (fs : List (Str × D)), l = .raw (.ref p) ∧ M2[k]? = some (p, MO.ins C fs) ∧ Cls X.K C ∧ NoAttr X.K C f ∧ fs.length < 1000 ∧ R (M2.set k (p, .ins C (putD f d fs)))) : GX X (.Attribute o f pos) d ρ M R := ⟨fun F σ B H v hr hx r Q q =>
  WG.of (pg_fld WE.pe) (h F σ B H hr hx _ fun l M2 ov B2 H2 ⟨p, k, C, fs, e1, e2, e3, e4, e5, h2⟩ s2 x2 r2 => by
    subst e1
    cases r2
    obtain ⟨ob, a1, a2, _⟩ := x2.at (at_app e2)
    cases a2 with
    | @ins _ dx vs _ rf =>
      refine ⟨p, C, dx, vs, rfl, a1, e3, e4, by rw [rf.length]; exact e5, ?_⟩
      have x4 := x2.put (at_app e2) (mo' := .ins C (putD f d fs)) (.ins (dx := dx) (rf.put (r.mono s2)))
      rw [set_app e2] at x4
      exact q _ B2 _ h2 s2 x4)⟩
theorem GXs.nil {R : Mem → Prop} (h : R M) : GXs X [] [] ρ M R := ⟨fun F σ B H vs hr hx r Q q => by
  cases r
  exact WGs.of pgs_nil ⟨rfl, q M B H h (Same.refl B) hx⟩⟩
theorem GXs.cons {ts : List Expr} {d : D} {ds : List D} {R : Mem → Prop} (h : GX X e d ρ M fun M1 => GXs X ts ds ρ M1 R) (hs : (assignEach (e :: ts) X.env).map (·.2) = assign e X.env :: (assignEach ts X.env).map (·.2) := by rfl) : GXs X (e :: ts) (d :: ds) ρ M R := ⟨fun F σ B H vs hr hx r Q q => by
  cases r with
  | cons r rs =>
    exact WGs.of (pgs_cons WG.pg WGs.pgs hs) ⟨_, _, rfl, h.run F σ B H _ hr hx r _ fun M1 B1 H1 h1 s1 x1 => h1.run F σ B1 H1 _ (hr.mono s1) x1 (rs.mono s1) _ fun M2 B2 H2 h2 s2 x2 => q M2 B2 H2 h2 (s1.trans s2) x2⟩⟩
theorem GX.tup {ts : List Expr} {ds : List D} {k : _} {R : Mem → Prop} (c : Ctx X N sc) (h : GXs X ts ds ρ M R) (hn : (assignEach ts X.env).length = ds.length := by rfl) (hst : (assignEach ts X.env).findIdx? (·.1) = none := by rfl) : GX X (.Tuple ts k pos) (.tup ds) ρ M R := ⟨fun F σ B H v hr hx r Q q => by
  cases r with
  | tup a rs => exact WG.of (pg_tup c.calm WGs.pgs hn hst) ⟨_, _, rfl, (tupAt_mono hx.fr a).sq, rs.length, h.run F σ B H _ hr hx rs Q q⟩⟩
/-- target = e, where the target changes the memory -/
theorem S1.asgX {tg : Expr} (h : EM X e ρ M fun d M1 => GX X tg d ρ M1 fun M2 => P.nx ρ M2) (hs : swapsWithSole [tg] e pos.line X.env = pure false := by rfl) (hw : swappedStores [tg] e X.env = pure none := by rfl)
    (h1 : (assignEach [tg] X.env).map (·.2) = [assign tg X.env] := by rfl) : S1 X (.Assign [tg] e pos) ρ M P := ⟨fun F σ B H hr hx Dn g =>
  WS.of (ps_asg WE.pe WG.pg hs hw h1) (h F σ B H hr hx _ fun d M1 v B1 H1 hg s1 x1 r1 => hg.run F σ B1 H1 v (hr.mono s1) x1 r1 _ fun M2 B2 H2 p s2 x2 => g.nx ρ M2 σ B2 H2 p (s1.trans s2) (hr.mono (s1.trans s2)) x2)⟩
end
end Dl
namespace Dl
open PySem PySem.Spec PyProof.Rows L2
/-! ### a <= b <= c <= d, all of it so -/
def tLe3 (ta tb tc td : TE) : TT := fun σ H Q => ta σ H fun x H1 => tb σ H1 fun y H2 => ∃ i j : Int, x = .int i ∧ y = .int j ∧ i ≤ j ∧ tc σ H2 fun z H3 => ∃ k : Int, z = .int k ∧ j ≤ k ∧ td σ H3 fun u H4 => ∃ l : Int, u = .int l ∧ k ≤ l ∧ Q true H4
section
variable {X : Cx} {N : List Str} {sc scope : Scope} {ρ ρ' ρw : Rho} {M : Mem} {T : Bool → Mem → Prop} {a b c d : Expr} {pos : Pos} {ta tb tc td : TE}
theorem pt_le3 (ha : PE X a ta) (hb : PE X b tb) (hc : PE X c tc) (hd : PE X d td) (hm : lastMarks [CmpOp.LtE, CmpOp.LtE, CmpOp.LtE] [b, c, d] = false := by with_unfolding_all rfl) : PT X (.Compare a [.LtE, .LtE, .LtE] [b, c, d] pos) (tLe3 ta tb tc td) := by
  refine ⟨fun pins s σ H Q I h => ?_⟩
  refine isTrue_chain (thn (ha.run pins s σ H _ I h) fun v s1 ⟨x, H1, I1, r1, q1⟩ => test_link (thn (hb.run pins s1 σ H1 _ I1 q1) fun u s2 ⟨y, H2, I2, r2, i, j, ex, ey, hij, q2⟩ =>
    thn (op_le pins s2 σ H2 x y v u (fun z H => z = .bl true ∧ H = H2) I2 r1 r2 ⟨i, j, ex, ey, congrArg V.bl (decide_eq_true hij), rfl⟩) fun d s3 ⟨z, H3, I3, r3, ez, eH⟩ => ?_)) hm
  subst ez eH
  cases r3
  refine wpAny_truthy_bool (ite_tt ?_)
  refine test_link (thn (hc.run pins s3 σ H3 _ I3 q2) fun w' s4 ⟨z', H4, I4, r4, k, ez, hjk, q4⟩ => thn (op_le pins s4 σ H4 y z' u w' (fun z H => z = .bl true ∧ H = H4) I4 r2 r4 ⟨j, k, ey, ez, congrArg V.bl (decide_eq_true hjk), rfl⟩) fun d' s5 ⟨z2, H5, I5, r5, ez2, eH2⟩ => ?_)
  subst ez2 eH2
  cases r5
  refine wpAny_truthy_bool (ite_tt ?_)
  refine test_last (thn (hd.run pins s5 σ H5 _ I5 q4) fun w5 s6 ⟨z6, H6, I6, r6, l, e6, hkl, q6⟩ => thn (op_le pins s6 σ H6 z' z6 w' w5 (fun z H => z = .bl true ∧ H = H6) I6 r4 r6 ⟨k, l, ez, e6, congrArg V.bl (decide_eq_true hkl), rfl⟩) fun d' s7 ⟨z7, H7, I7, r7, e7, e8⟩ => ?_)
  subst e7 e8
  cases r7
  exact wpAny_truthy_bool ⟨H7, I7, q6⟩
theorem TM.le3 (h : EM X a ρ M fun d1 M1 => EM X b ρ M1 fun d2 M2 => ∃ i j : Int, d1 = .int i ∧ d2 = .int j ∧ i ≤ j ∧ EM X c ρ M2 fun d3 M3 => ∃ k : Int, d3 = .int k ∧ j ≤ k ∧ EM X d ρ M3 fun d4 M4 => ∃ l : Int, d4 = .int l ∧ k ≤ l ∧ T true M4) (hm : lastMarks [CmpOp.LtE, CmpOp.LtE, CmpOp.LtE] [b, c, d] = false := by with_unfolding_all rfl) : TM X (.Compare a [.LtE, .LtE, .LtE] [b, c, d] pos) ρ M T := ⟨fun F σ B H hr hx Q q =>
  WT.of (pt_le3 WE.pe WE.pe WE.pe WE.pe hm) (h F σ B H hr hx _ fun d1 M1 v1 B1 H1 h1 s1 x1 r1 => h1 F σ B1 H1 (hr.mono s1) x1 _ fun d2 M2 v2 B2 H2 ⟨i, j, e1, e2, hij, h2⟩ s2 x2 r2 => by
    subst e1 e2
    cases r1; cases r2
    refine ⟨i, j, rfl, rfl, hij, h2 F σ B2 H2 (hr.mono (s1.trans s2)) x2 _ fun d3 M3 v3 B3 H3 ⟨k, e3, hjk, h3⟩ s3 x3 r3 => ?_⟩
    subst e3
    cases r3
    refine ⟨k, rfl, hjk, h3 F σ B3 H3 (hr.mono (s1.trans (s2.trans s3))) x3 _ fun d4 M4 v4 B4 H4 ⟨l, e4, hkl, h4⟩ s4 x4 r4 => ?_⟩
    subst e4
    cases r4
    exact ⟨l, rfl, hkl, q true M4 B4 H4 h4 (s1.trans (s2.trans (s3.trans s4))) x4⟩)⟩
end
end Dl
namespace Dl
open PySem PySem.Spec PyProof.Rows L2
/-! ### lists lent to a call that answers with tuples -/
mutual
def D.tupy : D → Bool
  | .tup l => tupys l
  | .lst _ => false
  | .scr _ => false
  | .raw _ => false
  | _ => true
def tupys : List D → Bool
  | [] => true
  | d :: l => d.tupy && tupys l
end
section
variable {K : PySem.W.Frag} {B B1 H : Hp}
mutual
theorem Rep.tupyTo (h : ∀ a xs, B a = some (.tup xs) → B1 a = some (.tup xs)) : ∀ {v : V} {d : D}, Rep K B v d → d.tupy = true → Rep K B1 v d
  | _, _, .non, _ => .non
  | _, _, .bl b, _ => .bl b
  | _, _, .int i, _ => .int i
  | _, _, .str x, _ => .str x
  | _, _, .tup ha rs, e => by
    rw [D.tupy] at e
    refine .tup ?_ (Reps.tupyTo h rs e)
    rcases ha with ha | ha
    · exact .inl (h _ _ ha)
    · exact .inr ha
  | _, _, .lst _ _, e => by simp [D.tupy] at e
  | _, _, .scr _, e => by simp [D.tupy] at e
  | _, _, .raw _, e => by simp [D.tupy] at e
theorem Reps.tupyTo (h : ∀ a xs, B a = some (.tup xs) → B1 a = some (.tup xs)) : ∀ {vs : List V} {ds : List D}, Reps K B vs ds → tupys ds = true → Reps K B1 vs ds
  | _, _, .nil, _ => .nil
  | _, _, .cons r rs, e => by
    rw [tupys, Bool.and_eq_true] at e
    exact .cons (Rep.tupyTo h r e.1) (Reps.tupyTo h rs e.2)
end
/-- the base B', the cells of M open again -/
noncomputable def unshut (B' : Hp) (M : Mem) : Hp := fun a => open Classical in if ∃ c ∈ M, c.1 = a then none else B' a
end
section
variable {X : Cx} {N : List Str} {sc scope : Scope} {ρ ρ' ρw : Rho} {M : Mem} {P : D → Mem → Prop} {e a b c o : Expr} {es : List Expr} {pos apos : Pos}
theorem EM.callLT {x : Str} {k j : Nat} {ps : List Str} {S : DA} {p : Pos} (c : Ctx X N sc) (hr : Room j X.A) (G : Gd X.prog X.w X.K X.mg X.base x k ps S) (h : AM X (e :: es) ρ M fun ds M1 => ∃ ds', Lents M1 ds ds' ∧ S ds' [] fun d M' => M' = [] ∧ d.tupy = true ∧ P d M1) (hk : k ≤ j := by decide)
    (hg : glB sc x = true := by decide +kernel) (hdb : (x == ("__debug__" : Str)) = false := by decide +kernel)
    (he : starEach (e :: es) X.env = (false, eval e X.env) :: starEach es X.env := by rfl) (hpl : (backTo pos (starEach es X.env)).any (·.1) = false := by rfl) : EM X (.Call (.Name x p) (e :: es) [] pos) ρ M P := ⟨fun F σ B H hρ hx Q q => by
  obtain ⟨f, fd, g, hm, hkp, hb⟩ := G.ex
  refine WE.of (pe_call g (hr.mono hk) (c.gl x hg) hm hkp hb .nil pass0 WA.pa hdb he hpl) (h F σ B H hρ hx _ fun ds M1 vs B1 H1 ⟨ds', hl, h1⟩ s1 x1 r1 => ?_)
  show spD X.K S (vs ++ []) H1 Q E0
  rw [List.append_nil]
  refine ⟨[], _, [], ds', hl.rep x1 r1, x1.shut, G.mono ds' [] _ _ (fun d M' ⟨e1, e2, p⟩ v B' H' s x r => ?_) h1⟩
  have hsh := x1.same_shut
  -- the base with the cells open again
  have key : ∀ a o, B1 a = some o → unshut B' (M1 ++ F) a = some o := fun a o e => by
    unfold unshut
    rw [if_neg (fun ⟨c, hc, e3⟩ => by have := x1.out c hc; rw [e3, e] at this; cases this)]
    exact s _ _ (hsh _ _ e)
  have same1 : Same B1 (unshut B' (M1 ++ F)) := key
  have hold : Holds X.K (unshut B' (M1 ++ F)) (M1 ++ F) H' := by
    refine ⟨fun a o e => ?_, fun c hc => ?_, fun c hc => ?_, x1.nd⟩
    · unfold unshut at e
      by_cases hcl : ∃ c ∈ M1 ++ F, c.1 = a
      · rw [if_pos hcl] at e; cases e
      · rw [if_neg hcl] at e; exact x.fr a o e
    · obtain ⟨o, h1, h2⟩ := x1.mem c hc
      have h3 : shut B1 H1 (M1 ++ F) c.1 = H1 c.1 := shut_at hc
      exact ⟨o, x.fr _ _ (s _ _ (by rw [h3]; exact h1)), h2.mono same1⟩
    · unfold unshut
      rw [if_pos ⟨c, hc, rfl⟩]
  refine q d M1 v _ H' p (s1.trans same1) hold (r.tupyTo (fun a xs ha => ?_) e2)
  unfold unshut
  by_cases hcl : ∃ c ∈ M1 ++ F, c.1 = a
  · exfalso
    obtain ⟨⟨pc, mo⟩, hc, rfl⟩ := hcl
    obtain ⟨o, h2, h3⟩ := x1.mem _ hc
    have h4 : shut B1 H1 (M1 ++ F) pc = H1 pc := shut_at hc
    have h3 : RepO X.K B1 mo o := h3
    have h2 : H1 pc = some o := h2
    have h5 := s _ _ (by rw [h4]; exact h2)
    rw [h5] at ha
    cases ha
    cases h3 with
    | dic _ _ n => exact n xs rfl
  · rw [if_neg hcl]
    exact ha⟩
end
end Dl
namespace Dl
open PySem PySem.Spec PyProof.Rows L2
/-! ### sorted(rows), rows tuples of so many whole numbers -/
def rowT (r : List Int) : D := .tup (r.map D.int)
section
variable {K : PySem.W.Frag} {B H : Hp}
theorem perm_rows {xs ys : List V} (h : xs.Perm ys) : ∀ rows : List (List Int), Reps K B xs (rows.map rowT) → ∃ rows' : List (List Int), Reps K B ys (rows'.map rowT) ∧ rows'.Perm rows := by
  induction h with
  | nil => intro rows r; exact ⟨rows, r, .refl _⟩
  | cons x _ ih =>
    intro rows r
    cases rows with
    | nil => cases r
    | cons a rows =>
      cases r with
      | cons h1 h2 =>
        obtain ⟨rows', g1, g2⟩ := ih rows h2
        exact ⟨a :: rows', .cons h1 g1, g2.cons a⟩
  | swap x y l =>
    intro rows r
    match rows, r with
    | a :: b :: rows, .cons h1 (.cons h2 h3) => exact ⟨b :: a :: rows, .cons h2 (.cons h1 h3), .swap _ _ _⟩
  | trans _ _ ih1 ih2 =>
    intro rows r
    obtain ⟨r1, g1, g2⟩ := ih1 rows r
    obtain ⟨r2, k1, k2⟩ := ih2 r1 g1
    exact ⟨r2, k1, k2.trans g2⟩
theorem row_tupI (s : Same B H) {v : V} {r : List Int} (h : Rep K B v (rowT r)) : TupI K H v r := by
  cases h with
  | @tup a xs _ ha rs =>
    refine ⟨a, rfl, ?_⟩
    rw [← rs.intsOf]
    exact (tupAt_mono s ha).sq
theorem pair_rows (s : Same B H) {C : List Int → Int} : ∀ {ys : List V} {rows : List (List Int)}, Reps K B ys (rows.map rowT) → ys.Pairwise (fun x y => ∀ n m, TupI K H x n → TupI K H y m → C n ≤ C m) → rows.Pairwise (fun a b => C a ≤ C b)
  | _, [], _, _ => .nil
  | _, a :: rows, .cons h1 h2, hp => by
    cases hp with
    | cons p1 p2 =>
      refine .cons (fun b hb => ?_) (pair_rows s h2 p2)
      obtain ⟨i, hi⟩ := List.mem_iff_getElem?.mp hb
      obtain ⟨v, hv, hr⟩ := h2.get (i := i) (d := rowT b) (by rw [List.getElem?_map, hi] <;> rfl)
      exact p1 v (List.mem_of_getElem? hv) a b (row_tupI s h1) (row_tupI s hr)
def RSortT (d : Nat) (Bo : Int) : DA := fun ds M P => ∃ rows : List (List Int), ds = [.lst (rows.map rowT)] ∧ rows.length < 64 ∧ (∀ r ∈ rows, r.length = d ∧ TS.Bd Bo r) ∧ ∀ (rows' : List (List Int)) (p : Addr), rows'.Perm rows → rows'.Pairwise (fun a b => TS.code Bo a ≤ TS.code Bo b) → P (.raw (.ref p)) ((p, .lst (rows'.map rowT)) :: M)
theorem dSortT {d : Nat} {Bo : Int} : DCall K (rSortU K d Bo) (RSortT d Bo) := by
  intro F B M H vs ds P Q hx r ⟨rows, e, h64, hb, hP⟩ q
  subst e
  match vs, r with
  | _, .cons (.lst (a := a) (xs := xs) ha rs) .nil =>
    have hl : xs.length = rows.length := by have := rs.length; rwa [List.length_map] at this
    refine ⟨a, xs, rfl, SqL.of (hx.fr _ _ ha), by omega, fun x hm => ?_, fun ys p hp hpw hpn => ?_⟩
    · obtain ⟨i, hi⟩ := List.mem_iff_getElem?.mp hm
      obtain ⟨dd, hd, hr⟩ := rs.get' hi
      rw [List.getElem?_map] at hd
      cases er : rows[i]? with
      | none => rw [er] at hd; cases hd
      | some row =>
        rw [er] at hd
        cases hd
        obtain ⟨b1, b2⟩ := hb row (List.mem_of_getElem? er)
        exact ⟨row, row_tupI hx.fr hr, b1, b2⟩
    · obtain ⟨rows', g1, g2⟩ := perm_rows hp.symm rows rs
      exact q _ _ _ B _ (hP rows' p g2 (pair_rows hx.fr g1 hpw)) (Same.refl B) (hx.alloc hpn (.lst g1)) (.raw _)
end
end Dl
namespace Dl
open PySem PySem.Spec PyProof.Rows L2
/-! ### t[:n], t[n:] of tuples; list(range(n)) that may change; xs.pop(i), xs.reverse() -/
theorem cutV_hi (xs : List V) (n : Nat) : cutV xs none (some (n : Int)) = xs.take n := by
  unfold cutV
  rw [HT.sIx_none, HT.sIx_nat, List.drop_zero, Nat.sub_zero]
  by_cases hn : n ≤ xs.length
  · rw [Nat.min_eq_left hn]
  · rw [Nat.min_eq_right (by omega), List.take_length, List.take_of_length_le (by omega)]
theorem cutV_lo (xs : List V) (n : Nat) : cutV xs (some (n : Int)) none = xs.drop n := by
  unfold cutV
  rw [HT.sIx_none, HT.sIx_nat]
  by_cases hn : n ≤ xs.length
  · rw [Nat.min_eq_left hn, List.take_of_length_le (by rw [List.length_drop]; omega)]
  · rw [Nat.min_eq_right (by omega), List.drop_eq_nil_of_le (Nat.le_refl _), List.drop_eq_nil_of_le (by omega), List.take_nil]
section
variable {X : Cx} {N : List Str} {sc scope : Scope} {ρ ρ' ρw : Rho} {M : Mem} {P : D → Mem → Prop} {e a b c o : Expr} {es : List Expr} {pos apos p1 p2 : Pos}
theorem tup_cut {Q : VK} {B H : Hp} {F M : Mem} {ad : Addr} {xs : List V} {l : List D} (lo hi : Option Int) (ys : List D) (hx : Holds X.K B (M ++ F) H) (ha : TupAt X.K B ad xs) (rs : Reps X.K B xs l)
    (hw : HT.sIx xs.length 0 lo = 0 ∧ HT.sIx xs.length xs.length hi = xs.length → ys = l) (hr : Reps X.K B (cutV xs lo hi) ys) (p : P (.tup ys) M) (q : ∀ d M' v B' H', P d M' → Same B B' → Holds X.K B' (M' ++ F) H' → Rep X.K B' v d → Q v H') : rSlA X.K (.ref ad) lo hi H Q := by
  refine ⟨ad, xs, rfl, (tupAt_mono hx.fr ha).sq, fun hw' => ?_, fun _ pn hp => ?_⟩
  · rw [hw hw'] at p
    exact q _ M _ B H p (Same.refl B) hx (.tup ha rs)
  · have s : Same B (L2.upd B pn (.tup (cutV xs lo hi))) := Same.upd (hx.free hp)
    exact q _ M _ _ _ p s (hx.new hp) (.tup (.inl upd_same) (hr.mono s))
theorem EM.tupHi (h : EM X a ρ M fun d M1 => EM X b ρ M1 fun e M2 => ∃ (l : List D) (n : Nat), d = .tup l ∧ e = .int (n : Int) ∧ P (.tup (l.take n)) M2) : EM X (.Subscript a (.Slice none (some b) none p2) pos) ρ M P := ⟨fun F σ B H hρ hx Q q =>
  WE.of (pe_slice sl_tupA WE.pe po_none (po_some WE.pe)) (h F σ B H hρ hx _ fun d M1 v B1 H1 h1 s1 x1 r1 => h1 F σ B1 H1 (hρ.mono s1) x1 _ fun e M2 w B2 H2 ⟨l, n, e1, e2, h2⟩ s2 x2 r2 => by
    subst e1 e2
    cases r2
    cases r1 with
    | @tup ad xs _ hl rs =>
      refine ⟨_, rfl, tup_cut none (some (n : Int)) (l.take n) x2 (tupAt_mono s2 hl) (rs.mono s2) (fun hw => ?_) (by rw [cutV_hi]; exact (rs.mono s2).take n) h2 fun d M' v B' H' p s x r => q d M' v B' H' p (s1.trans (s2.trans s)) x r⟩
      have h3 := hw.2
      rw [HT.sIx_nat] at h3
      have := rs.length
      exact List.take_of_length_le (by omega))⟩
theorem EM.tupLo (h : EM X a ρ M fun d M1 => EM X b ρ M1 fun e M2 => ∃ (l : List D) (n : Nat), d = .tup l ∧ e = .int (n : Int) ∧ P (.tup (l.drop n)) M2) : EM X (.Subscript a (.Slice (some b) none none p2) pos) ρ M P := ⟨fun F σ B H hρ hx Q q =>
  WE.of (pe_slice sl_tupA WE.pe (po_some WE.pe) po_none) (h F σ B H hρ hx _ fun d M1 v B1 H1 h1 s1 x1 r1 => h1 F σ B1 H1 (hρ.mono s1) x1 _ fun e M2 w B2 H2 ⟨l, n, e1, e2, h2⟩ s2 x2 r2 => by
    subst e1 e2
    cases r2
    cases r1 with
    | @tup ad xs _ hl rs =>
      refine ⟨_, rfl, tup_cut (some (n : Int)) none (l.drop n) x2 (tupAt_mono s2 hl) (rs.mono s2) (fun hw => ?_) (by rw [cutV_lo]; exact (rs.mono s2).drop n) h2 fun d M' v B' H' p s x r => q d M' v B' H' p (s1.trans (s2.trans s)) x r⟩
      have h3 := hw.1
      rw [HT.sIx_nat] at h3
      have := rs.length
      by_cases hn : n = 0
      · rw [hn, List.drop_zero]
      · have e0 : xs.length = 0 := by omega
        have : l = [] := List.length_eq_zero_iff.mp (by omega)
        rw [this, List.drop_nil])⟩
/-- list(range(n)): a new list that may change -/
theorem EM.lstRgM (c : Ctx X N sc) (hm : X.mg "list" = none) (hmr : X.mg "range" = none) (h : EM X a ρ M fun d M1 => ∃ n : Int, d = .int n ∧ (0 ≤ n ∧ n ≤ 1000) ∧ ∀ p, P (.raw (.ref p)) ((p, .lst (rngD 0 n.toNat)) :: M1))
    (hg : glB sc "list" = true := by decide +kernel) (hgr : glB sc "range" = true := by decide +kernel) (na : starEach [a] X.env = (false, eval a X.env) :: starEach [] X.env := by rfl)
    (na2 : starEach [.Call (.Name "range" p2) [a] [] apos] X.env = (false, eval (.Call (.Name "range" p2) [a] [] apos) X.env) :: starEach [] X.env := by rfl) : EM X (.Call (.Name "list" p1) [.Call (.Name "range" p2) [a] [] apos] [] pos) ρ M P := ⟨fun F σ B H hr hx Q q =>
  WE.of (pe_listRg c.calm (c.gl _ hg) hm (prg_1 (c.gl _ hgr) hmr WE.pe na) na2) (h F σ B H hr hx _ fun d M1 v B1 H1 ⟨n, e1, b1, h1⟩ s x r => by
    subst e1
    cases r
    refine ⟨n, rfl, RgOk.of_le (by omega) (by omega) (by omega) (by omega), fun p hp => ?_⟩
    exact q _ _ _ B1 _ (h1 p) s (x.alloc hp (.lst rg_rep)) (.raw _))⟩
/-- xs.pop(e) -/
theorem EM.popAt {apos : Pos} (h : EM X o ρ M fun d M1 => tyList d M1 ∧ EM X e ρ M1 fun z M2 => RPopAt d [z] M2 P)
    (hbase : attributeBase o "pop" X.env (eval o X.env) = eval o X.env := by rfl)
    (hfew : ((backTo pos (starEach [e] X.env)).all (fun x => !x.1) && (backToKw pos (keywordEach [] X.env)).all (fun x => x.1.isSome)
      && decide ([e].length + ([] : List Keyword).length + (if ([] : List Keyword).isEmpty then 0 else 1) < 30)) = true := by rfl)
    (hline : (apos.endLine == pos.line) = true := by rfl) (hs : starEach [e] X.env = [(false, eval e X.env)] := by rfl) : EM X (.Call (.Attribute o "pop" apos) [e] [] pos) ρ M P :=
  EM.bm PySem.F.plainAttrs_list PySem.F.slot_list_pop PySem.F.type_list_pop mt_popAt dPopAt (h.to fun d M1 ⟨t, h1⟩ => ⟨t, AM.cons (h1.to fun z M2 h2 => AM.nil h2) hs⟩) hbase hfew hline hs
/-- xs.reverse() -/
def RReverse : DM := fun d ds M P => ∃ (p : Addr) (k : Nat) (l : List D), d = .raw (.ref p) ∧ ds = [] ∧ M[k]? = some (p, MO.lst l) ∧ P .non (M.set k (p, .lst l.reverse))
theorem dReverse {K : PySem.W.Frag} : DMeth K "list" rReverse tyList RReverse := ⟨fun F B M H x d hx r t => tyList_ok hx r t, fun F B M H x d vs ds P Q hx r rs hR q => by
  obtain ⟨p, k, l, rfl, rfl, h1, h2⟩ := hR
  cases r
  match rs with
  | .nil =>
    obtain ⟨ob, a1, a2, _⟩ := hx.at (at_app h1)
    cases a2 with
    | @lst ys _ rl =>
      refine ⟨p, ys, rfl, rfl, a1, ?_⟩
      have x4 := hx.put (at_app h1) (mo' := .lst l.reverse) (.lst rl.reverse)
      rw [set_app h1] at x4
      exact q _ _ _ B _ h2 (Same.refl B) x4 .non⟩
theorem EM.reverse {apos : Pos} (h : EM X o ρ M fun d M1 => tyList d M1 ∧ RReverse d [] M1 P)
    (hbase : attributeBase o "reverse" X.env (eval o X.env) = eval o X.env := by rfl) (hline : (apos.endLine == pos.line) = true := by rfl) : EM X (.Call (.Attribute o "reverse" apos) [] [] pos) ρ M P :=
  EM.bm0 PySem.F.plainAttrs_list PySem.F.slot_list_reverse PySem.F.type_list_reverse mt_reverse dReverse h hbase hline
/-- what nobody asks for any more is left -/
theorem SM.less {M' : Mem} {O : Out} {rest : List Stmt} (h : SM X rest ρ M' O) (k : M'.Sublist M) : SM X rest ρ M O := ⟨fun F σ B H hr hx Dn g => h F σ B H hr (hx.sub (k.append (List.Sublist.refl F))) Dn g⟩
end
end Dl
namespace Dl
open PySem PySem.Spec PyProof.Rows L2
/-! ### texts: join, split, walked, signs in a text, str(n), int(text), text * n -/
def tyStr (d : D) (_ : Mem) : Prop := ∃ a, d = .str a
theorem tyStr_ok {K : PySem.W.Frag} {F : Mem} {B : Hp} {M : Mem} {H : Hp} {x : V} {d : D} (hx : Holds K B (M ++ F) H) (r : Rep K B x d) (t : tyStr d M) : tyV K "str" x H := by
  obtain ⟨a, rfl⟩ := t
  cases r
  rfl
/-- sep.join(xs) -/
def RJoin : DM := fun d ds M P => ∃ (a : Str) (ys : List Str), d = .str a ∧ (ds = [.lst (ys.map D.str)] ∨ ds = [.tup (ys.map D.str)]) ∧ (ys.map (·.length)).sum + ys.length * a.length ≤ 16777216 ∧ P (.str (Txt.join a ys)) M
theorem dJoin {K : PySem.W.Frag} : DMeth K "str" (fun x xs H Q => ∃ a p, ∃ ys : List Str, x = .str a ∧ xs = [.ref p] ∧ (SqL K H p (ys.map V.str) ∨ SqT K H p (ys.map V.str)) ∧ (ys.map (·.length)).sum + ys.length * a.length ≤ 16777216 ∧ Q (.str (Txt.join a ys)) H) tyStr RJoin :=
  ⟨fun F B M H x d hx r t => tyStr_ok hx r t, fun F B M H x d vs ds P Q hx r rs hR q => by
    obtain ⟨a, ys, rfl, hd, hl, hP⟩ := hR
    cases r
    have fin := q _ M _ B H hP (Same.refl B) hx (.str _)
    rcases hd with rfl | rfl
    · match rs with
      | .cons (.lst (a := p) h1 r1) .nil =>
        have e := r1.strsOf
        subst e
        exact ⟨a, p, ys, rfl, rfl, .inl (SqL.of (hx.fr _ _ h1)), hl, fin⟩
    · match rs with
      | .cons (.tup (a := p) h1 r1) .nil =>
        have e := r1.strsOf
        subst e
        exact ⟨a, p, ys, rfl, rfl, .inr (tupAt_mono hx.fr h1).sq, hl, fin⟩⟩
/-- x.split(sep): a new list -/
theorem reps_strs {K : PySem.W.Frag} {B : Hp} : ∀ ys : List Str, Reps K B (ys.map V.str) (ys.map D.str)
  | [] => .nil
  | y :: ys => .cons (.str y) (reps_strs ys)
def RSplit : DM := fun d ds M P => ∃ (a b : Str), d = .str a ∧ ds = [.str b] ∧ (b.length == 0) = false ∧ a.length + 2 ≤ sizeLine ∧ ∀ p, P (.raw (.ref p)) ((p, .lst ((Txt.split a b).map D.str)) :: M)
theorem dSplit {K : PySem.W.Frag} : DMeth K "str" (fun x xs H Q => ∃ a b, x = .str a ∧ xs = [.str b] ∧ (b.length == 0) = false ∧ a.length + 2 ≤ sizeLine ∧ rNewStrs (Txt.split a b) H Q) tyStr RSplit :=
  ⟨fun F B M H x d hx r t => tyStr_ok hx r t, fun F B M H x d vs ds P Q hx r rs hR q => by
    obtain ⟨a, b, rfl, rfl, h1, h2, hP⟩ := hR
    cases r
    match rs with
    | .cons (.str _) .nil => exact ⟨a, b, rfl, rfl, h1, h2, fun p hp => q _ _ _ B _ (hP p) (Same.refl B) (hx.alloc hp (.lst (reps_strs _))) (.raw _)⟩⟩
def charsD (x : Str) : List D := x.cps.toList.map fun c => .str ⟨#[c]⟩
section
variable {X : Cx} {N : List Str} {sc scope : Scope} {ρ ρ' ρw : Rho} {M : Mem} {P : D → Mem → Prop} {T : Bool → Mem → Prop} {e a b c o tg : Expr} {es : List Expr} {pos apos p1 p2 : Pos}
theorem EM.joinS (h : EM X o ρ M fun d M1 => tyStr d M1 ∧ EM X e ρ M1 fun z M2 => RJoin d [z] M2 P)
    (hbase : attributeBase o "join" X.env (eval o X.env) = eval o X.env := by rfl)
    (hfew : ((backTo pos (starEach [e] X.env)).all (fun x => !x.1) && (backToKw pos (keywordEach [] X.env)).all (fun x => x.1.isSome)
      && decide ([e].length + ([] : List Keyword).length + (if ([] : List Keyword).isEmpty then 0 else 1) < 30)) = true := by rfl)
    (hline : (apos.endLine == pos.line) = true := by rfl) (hs : starEach [e] X.env = [(false, eval e X.env)] := by rfl) : EM X (.Call (.Attribute o "join" apos) [e] [] pos) ρ M P :=
  EM.bm F.plainAttrs_str F.slot_str_join F.type_str_join mt_join dJoin (h.to fun d M1 ⟨t, h1⟩ => ⟨t, AM.cons (h1.to fun z M2 h2 => AM.nil h2) hs⟩) hbase hfew hline hs
theorem EM.splitS (h : EM X o ρ M fun d M1 => tyStr d M1 ∧ EM X e ρ M1 fun z M2 => RSplit d [z] M2 P)
    (hbase : attributeBase o "split" X.env (eval o X.env) = eval o X.env := by rfl)
    (hfew : ((backTo pos (starEach [e] X.env)).all (fun x => !x.1) && (backToKw pos (keywordEach [] X.env)).all (fun x => x.1.isSome)
      && decide ([e].length + ([] : List Keyword).length + (if ([] : List Keyword).isEmpty then 0 else 1) < 30)) = true := by rfl)
    (hline : (apos.endLine == pos.line) = true := by rfl) (hs : starEach [e] X.env = [(false, eval e X.env)] := by rfl) : EM X (.Call (.Attribute o "split" apos) [e] [] pos) ρ M P :=
  EM.bm F.plainAttrs_str F.slot_str_split F.type_str_split mt_split dSplit (h.to fun d M1 ⟨t, h1⟩ => ⟨t, AM.cons (h1.to fun z M2 h2 => AM.nil h2) hs⟩) hbase hfew hline hs
/-- over a text's signs -/
theorem IW.str {P : List D → Mem → Prop} (h : EM X e ρ M fun d M1 => ∃ x, d = .str x ∧ P (charsD x) M1) : IW X tg e ρ M P := ⟨_, pi_str WE.pe, fun F σ B H hr hx R q => h F σ B H hr hx _ fun d M1 v B1 H1 ⟨x, e1, h1⟩ s xx r => by
  subst e1
  cases r
  have hl : (charsD x).length = x.cps.size := by unfold charsD; rw [List.length_map, Array.length_toList]
  refine ⟨x, rfl, q (charsD x) _ M1 B1 H1 h1 s xx ⟨fun i H' s' hi => by show i < x.cps.size; omega, fun H' s' => by show x.cps.size ≤ _; omega, fun i H' y H'' s' hi hy => ?_⟩⟩
  obtain ⟨e1, ch, e2, e3⟩ := hy
  refine ⟨e1, .str ⟨#[ch]⟩, ?_, by rw [e3]; exact .str _⟩
  unfold charsD
  rw [List.getElem?_map, Array.getElem?_toList, e2] <;> rfl⟩
/-- one text in another -/
def inText (x y : Str) : Bool := !(Builtin.Str.occurrences y x 0 y.length 1).isEmpty
def RInT (f : Bool → Bool) : DR := fun d e M P => match d, e with
  | .str x, .str y => P (.bl (f (inText x y))) M
  | _, _ => False
theorem dInT {K : PySem.W.Frag} : DOp K (fun x y H Q => ∃ i j, x = .str i ∧ y = .str j ∧ Q (.bl (!(Builtin.Str.occurrences j i 0 j.length 1).isEmpty)) H) (RInT id) := by
  intro F B M H x y d e P Q hx r1 r2 hR q
  cases d <;> cases e <;> try exact hR.elim
  cases r1; cases r2
  exact ⟨_, _, rfl, rfl, q _ M _ B H hR (Same.refl B) hx (.bl _)⟩
theorem dNiT {K : PySem.W.Frag} : DOp K (fun x y H Q => ∃ i j, x = .str i ∧ y = .str j ∧ Q (.bl (!(!(Builtin.Str.occurrences j i 0 j.length 1).isEmpty))) H) (RInT Bool.not) := by
  intro F B M H x y d e P Q hx r1 r2 hR q
  cases d <;> cases e <;> try exact hR.elim
  cases r1; cases r2
  exact ⟨_, _, rfl, rfl, q _ M _ B H hR (Same.refl B) hx (.bl _)⟩
theorem TM.niT (h : EM X a ρ M fun d M1 => EM X b ρ M1 fun e M2 => RInT Bool.not d e M2 fun z M3 => ∃ k, z = .bl k ∧ T k M3) (hm : behindInMarks .NotIn b = false := by rfl) : TM X (.Compare a [.NotIn] [b] pos) ρ M T := TM.cmp L2.op_notIn_str dNiT h hm
/-- int(text) -/
def RIntS : DA := fun ds M P => match ds with
  | [.str a] => ∃ n, PySem.intText? a = some n ∧ a.length ≤ 640 ∧ P (.int n) M
  | _ => False
theorem dIntS {K : PySem.W.Frag} : DCall K (fun xs H Q => ∃ a n, xs = [.str a] ∧ PySem.intText? a = some n ∧ a.length ≤ 640 ∧ Q (.int n) H) RIntS := by
  intro F B M H vs ds P Q hx r hR q
  match vs, ds, r, hR with
  | _, [.str a], .cons (.str _) .nil, ⟨n, h1, h2, h⟩ => exact ⟨a, n, rfl, h1, h2, q _ M _ B H h (Same.refl B) hx (.int _)⟩
/-- text * n, n 0 or 1 -/
def rMulS : R2 := fun x y H Q => ∃ (a : Str) (k : Int), x = .str a ∧ y = .int k ∧ (k = 0 ∨ k = 1) ∧ Q (.str (if k = 0 then Str.empty else a)) H
theorem op_mulS : OpR X (binaryOp .Mult) rMulS := by
  intro pins s σ H x y v u Q I rx ry h
  obtain ⟨a, k, rfl, rfl, hk, q⟩ := h
  obtain ⟨t, rfl⟩ := rx
  obtain ⟨t', rfl⟩ := ry
  rcases hk with rfl | rfl
  · exact P.mul_str_none (by decide) (by decide) ⟨.str Str.empty, H, I.tok _, ⟨_, rfl⟩, q⟩
  · refine P.mul_str (by decide) (fun _ h => by cases h) (fun _ h => by cases h) ?_
    rw [if_neg (by decide), if_pos (show ((1 : Int) == 1 || a.length == 0) = true from rfl)]
    exact ⟨.str a, H, I, ⟨_, rfl⟩, q⟩
def RMulS : DR := fun d e M P => match d, e with
  | .str a, .int k => (k = 0 ∨ k = 1) ∧ P (.str (if k = 0 then Str.empty else a)) M
  | _, _ => False
theorem dMulS {K : PySem.W.Frag} : DOp K rMulS RMulS := by
  intro F B M H x y d e P Q hx r1 r2 hR q
  cases d <;> cases e <;> try exact hR.elim
  cases r1; cases r2
  exact ⟨_, _, rfl, rfl, hR.1, q _ M _ B H hR.2 (Same.refl B) hx (.str _)⟩
theorem EM.mulS (h : EM X a ρ M fun d M1 => EM X b ρ M1 fun e M2 => RMulS d e M2 P) : EM X (.BinOp a .Mult b pos) ρ M P := EM.op op_mulS dMulS h
/-- the module's texts -/
def KS (mg : Str → Option Value) (x : Str) (s : Str) : Prop := ∃ t, mg x = some (.str s t)
theorem EM.gstr {x : Str} {s : Str} (c : Ctx X N sc) (k : KS X.mg x s) (p : P (.str s) M) (hg : glB sc x = true := by decide +kernel) (hd : (x == ("__debug__" : Str)) = false := by decide +kernel) : EM X (.Name x pos) ρ M P := by
  obtain ⟨t, k⟩ := k
  exact EM.glob (v := .str s) c k ⟨t, rfl⟩ (fun B => .str s) p hg hd
end
end Dl
namespace Dl
open PySem PySem.Spec PyProof.Rows L2
/-! ### a list that may change, walked, itself left as it is -/
section
variable {X : Cx} {N : List Str} {sc scope : Scope} {ρ ρ' ρw : Rho} {M : Mem} {P : Out} {e a b c o i elt tg iter : Expr} {es : List Expr} {xs : List Str} {pos pos' : Pos} {st : Stmt} {rest body orelse : List Stmt}
theorem S1.forM (c : Ctx X N sc) (h : EM X iter ρ M fun d M1 => ∃ (p : Addr) (l : List D), d = .raw (.ref p) ∧ ∃ I : Nat → Rho → Mem → Prop, I 0 ρ M1 ∧ (∀ i ρ' M', I i ρ' M' → ∃ k : Nat, M'[k]? = some (p, MO.lst l)) ∧
    (∀ i x ρ' M', l[i]? = some x → I i ρ' M' → ∃ ρ'' xs, GM X N tg xs x ρ' ρ'' ∧ SM X body ρ'' M' { nx := I (i + 1), ct := I (i + 1), rt := P.rt, bk := P.nx }) ∧ ∀ ρ' M', I l.length ρ' M' → P.nx ρ' M') (hs : ∀ x, foldedSetIterable iter X.env x = pure x := by intro _; rfl) : S1 X (.For tg iter body [] pos) ρ M P := ⟨fun F σ B H hr hx Dn g => by
  refine WS.of (ps_for c.po c.calm (pi_list WE.pe) WG.pg WSs.ps hs) (h F σ B H hr hx _ fun d M1 v B1 H1 ⟨p, l, e1, I, i0, keep, turn, fin⟩ s1 x1 r1 => ?_)
  subst e1
  cases r1
  have sq : ∀ {i : Nat} {ρ' : Rho} {M' : Mem} {B' H' : Hp}, I i ρ' M' → Holds X.K B' (M' ++ F) H' → ∃ xs, SqL X.K H' p (xs : List V) ∧ H' p = some (.lst xs) ∧ Reps X.K B' xs l := fun {i ρ' M' B' H'} hI x2 => by
    obtain ⟨k, hk⟩ := keep i ρ' M' hI
    obtain ⟨ob, a1, a2, _⟩ := x2.at (at_app hk)
    cases a2 with
    | lst rs => exact ⟨_, SqL.of a1, a1, rs⟩
  obtain ⟨xs0, sq0, _, _⟩ := sq i0 x1
  refine ⟨p, rfl, ⟨xs0, sq0⟩, fun i m σ' H' => m = l.length - i ∧ i ≤ l.length ∧ ∃ ρ' M' B', I i ρ' M' ∧ Same B1 B' ∧ EnvRep X.K B' σ' ρ' ∧ Holds X.K B' (M' ++ F) H', ⟨l.length, by simp, Nat.zero_le _, ρ, M1, B1, i0, Same.refl _, hr.mono s1, x1⟩, ?_⟩
  rintro i m σ' H' ⟨rfl, hi', ρ', M', B', hI, s2, r2, x2⟩
  obtain ⟨xs, q1, q2, q3⟩ := sq hI x2
  by_cases hlt : i < l.length
  · obtain ⟨v0, w1, w2⟩ := q3.get (List.getElem?_eq_getElem hlt)
    refine .inr ⟨⟨xs, v0, q1, w1⟩, fun σ' H' => (i + 1 ≤ l.length ∧ ∃ ρ' M' B', I (i + 1) ρ' M' ∧ Same B1 B' ∧ EnvRep X.K B' σ' ρ' ∧ Holds X.K B' (M' ++ F) H'), fun σ'' H'' ⟨a, b⟩ => ⟨l.length - (i + 1), by omega, rfl, a, b⟩, fun y H'' hy => ?_⟩
    obtain ⟨e1, e2⟩ := hy
    subst e1
    have hv := e2 xs q1
    obtain ⟨d, hd, rd⟩ := q3.get' hv
    obtain ⟨ρ'', zs, hg, hb⟩ := turn i d ρ' M' hd hI
    refine hg σ' B' _ _ y r2 x2 rd _ fun σ2 r3 _ => ?_
    refine hb F σ2 B' _ r3 x2 _ ⟨fun ρ3 M3 σ3 B3 H3 p s r x => ⟨hlt, ρ3, M3, B3, p, s2.trans s, r, x⟩, fun d3 M3 v3 B3 H3 p s r x => g.rt d3 M3 v3 B3 H3 p (s1.trans (s2.trans s)) r x,
      fun ρ3 M3 σ3 B3 H3 p s r x => g.nx ρ3 M3 σ3 B3 H3 p (s1.trans (s2.trans s)) r x, fun ρ3 M3 σ3 B3 H3 p s r x => ⟨hlt, ρ3, M3, B3, p, s2.trans s, r, x⟩⟩
  · have e : i = l.length := by omega
    subst e
    exact .inl ⟨⟨xs, q1, by rw [q3.length]; exact Nat.le_refl _⟩, g.nx ρ' M' σ' B' H' (fin ρ' M' hI) (s1.trans s2) r2 x2⟩⟩
end
end Dl
namespace Dl
open PySem PySem.Spec PyProof.Rows L2
/-! ### errors, over data -/
/-- an error: its class, its fields -/
structure Er where
  C : Addr
  fs : List (Str × D)
/-- the value's class and dict are those of x -/
def RepX (cls : Value) (d : Option Addr) (x : Er) : Prop := cls = .ref x.C ∧ (d = none → x.fs = [])
/-- the dict of an error -/
def xphi (K : PySem.W.Frag) (fs : List (Str × D)) : Hp → HO → Prop := fun B o => ∃ vs, o = .xd vs ∧ RepF K B vs fs
def xmem (K : PySem.W.Frag) (d : Option Addr) (x : Er) : Mem := match d with
  | none => []
  | some dd => [(dd, .dic (xphi K x.fs))]
abbrev XR := Er → Rho → Mem → Prop
/-- W takes what R says, from the base B on, over the frame F -/
def Lets (X : Cx) (W : WX) (B : Hp) (F : Mem) (R : XR) : Prop := ∀ x ρ M cls d σ B' H, R x ρ M → Same B B' → EnvRep X.K B' σ ρ → Holds X.K B' (xmem X.K d x ++ (M ++ F)) H → RepX cls d x → W cls d σ H
theorem Lets.mono {X : Cx} {W : WX} {B B1 : Hp} {F : Mem} {R : XR} (l : Lets X W B F R) (s : Same B B1) : Lets X W B1 F R := fun x ρ M cls d σ B' H r s1 => l x ρ M cls d σ B' H r (s.trans s1)
structure EMx (X : Cx) (e : Expr) (ρ : Rho) (M : Mem) (R : XR) (P : D → Mem → Prop) : Prop where
  run : ∀ W : WX, Takes X W → ∀ (F : Mem) (σ : L2.St) (B H : Hp), EnvRep X.K B σ ρ → Holds X.K B (M ++ F) H → Lets X W B F R → ∀ Q : VK, (∀ d M' v B' H', P d M' → Same B B' → Holds X.K B' (M' ++ F) H' → Rep X.K B' v d → Q v H') → WE X e σ H Q
structure TMx (X : Cx) (e : Expr) (ρ : Rho) (M : Mem) (R : XR) (P : Bool → Mem → Prop) : Prop where
  run : ∀ W : WX, Takes X W → ∀ (F : Mem) (σ : L2.St) (B H : Hp), EnvRep X.K B σ ρ → Holds X.K B (M ++ F) H → Lets X W B F R → ∀ Q : Bool → Hp → Prop, (∀ b M' B' H', P b M' → Same B B' → Holds X.K B' (M' ++ F) H' → Q b H') → WT X e σ H Q
structure WMx (X : Cx) (e : Expr) (ρ : Rho) (M : Mem) (R : XR) (P : Bool → Mem → Prop) : Prop where
  run : ∀ W : WX, Takes X W → ∀ (F : Mem) (σ : L2.St) (B H : Hp), EnvRep X.K B σ ρ → Holds X.K B (M ++ F) H → Lets X W B F R → ∀ Q : Bool → Hp → Prop, (∀ b M' B' H', P b M' → Same B B' → Holds X.K B' (M' ++ F) H' → Q b H') → WW X e σ H Q
structure AMx (X : Cx) (es : List Expr) (ρ : Rho) (M : Mem) (R : XR) (P : List D → Mem → Prop) : Prop where
  run : ∀ W : WX, Takes X W → ∀ (F : Mem) (σ : L2.St) (B H : Hp), EnvRep X.K B σ ρ → Holds X.K B (M ++ F) H → Lets X W B F R → ∀ Q : List V → Hp → Prop, (∀ ds M' vs B' H', P ds M' → Same B B' → Holds X.K B' (M' ++ F) H' → Reps X.K B' vs ds → Q vs H') → WA X es σ H Q
structure S1x (X : Cx) (st : Stmt) (ρ : Rho) (M : Mem) (R : XR) (P : Out) : Prop where
  run : ∀ W : WX, Takes X W → ∀ (F : Mem) (σ : L2.St) (B H : Hp), EnvRep X.K B σ ρ → Holds X.K B (M ++ F) H → Lets X W B F R → ∀ Dn : Ends, Grants X.K B F P Dn → WS X st Dn σ H
structure SMx (X : Cx) (st : List Stmt) (ρ : Rho) (M : Mem) (R : XR) (P : Out) : Prop where
  run : ∀ W : WX, Takes X W → ∀ (F : Mem) (σ : L2.St) (B H : Hp), EnvRep X.K B σ ρ → Holds X.K B (M ++ F) H → Lets X W B F R → ∀ Dn : Ends, Grants X.K B F P Dn → WSs X st Dn σ H
section
variable {X : Cx} {N : List Str} {sc scope : Scope} {ρ ρ' ρw : Rho} {M : Mem} {R : XR} {P : D → Mem → Prop} {O : Out} {e a b c o elt tg iter : Expr} {es : List Expr} {xs : List Str} {pos : Pos} {st : Stmt} {rest body orelse : List Stmt}
theorem EMx.of (h : EM X e ρ M P) : EMx X e ρ M R P := ⟨fun W tk F σ B H r x l Q q => h.run F σ B H r x Q q⟩
theorem TMx.of {P : Bool → Mem → Prop} (h : TM X e ρ M P) : TMx X e ρ M R P := ⟨fun W tk F σ B H r x l Q q => h.run F σ B H r x Q q⟩
theorem WMx.of {P : Bool → Mem → Prop} (h : WM X e ρ M P) : WMx X e ρ M R P := ⟨fun W tk F σ B H r x l Q q => h.run F σ B H r x Q q⟩
theorem AMx.of {P : List D → Mem → Prop} (h : AM X es ρ M P) : AMx X es ρ M R P := ⟨fun W tk F σ B H r x l Q q => h.run F σ B H r x Q q⟩
theorem S1x.of (h : S1 X st ρ M O) : S1x X st ρ M R O := ⟨fun W tk F σ B H r x l Q q => h.run F σ B H r x Q q⟩
theorem SMx.of (h : SM X rest ρ M O) : SMx X rest ρ M R O := ⟨fun W tk F σ B H r x l Q q => h.run F σ B H r x Q q⟩
theorem EMx.to {P' : D → Mem → Prop} (h : EMx X e ρ M R P) (k : ∀ d M', P d M' → P' d M') : EMx X e ρ M R P' := ⟨fun W tk F σ B H r x l Q q => h.run W tk F σ B H r x l Q fun d M' v B' H' p => q d M' v B' H' (k d M' p)⟩
theorem TMx.to {P P' : Bool → Mem → Prop} (h : TMx X e ρ M R P) (k : ∀ d M', P d M' → P' d M') : TMx X e ρ M R P' := ⟨fun W tk F σ B H r x l Q q => h.run W tk F σ B H r x l Q fun d M' B' H' p => q d M' B' H' (k d M' p)⟩
/-- the same errors -/
theorem EMx.err {R' : XR} (h : EMx X e ρ M R' P) (k : ∀ x ρ M, R' x ρ M → R x ρ M) : EMx X e ρ M R P := ⟨fun W tk F σ B H r x l Q q => h.run W tk F σ B H r x (fun y ρ M cls d σ B' H p => l y ρ M cls d σ B' H (k y ρ M p)) Q q⟩
/-! ### sequences -/
theorem SMx.nil (h : O.nx ρ M) : SMx X [] ρ M R O := SMx.of (SM.nil h)
theorem SMx.seq (h : S1x X st ρ M R { O with nx := fun ρ1 M1 => SMx X rest ρ1 M1 R O }) : SMx X (st :: rest) ρ M R O := ⟨fun W tk F σ B H hr hx l Dn g =>
  WSs.of (pss_cons WS.ps WSs.ps) (h.run W tk F σ B H hr hx l { Dn with nx := WSs X rest Dn } ⟨fun ρ1 M1 σ1 B1 H1 p s r x => p.run W tk F σ1 B1 H1 r x (l.mono s) Dn (g.mono s), g.rt, g.bk, g.ct⟩)⟩
theorem SMx.last (h : S1x X st ρ M R O) : SMx X [st] ρ M R O := ⟨fun W tk F σ B H hr hx l Dn g => WSs.of (pss_one WS.ps) (h.run W tk F σ B H hr hx l Dn g)⟩
theorem SMx.drop {m : Addr × MO} (h : SMx X rest ρ M R O) : SMx X rest ρ (m :: M) R O := ⟨fun W tk F σ B H hr hx l Dn g => h.run W tk F σ B H hr (hx.sub (List.sublist_cons_self _ _)) l Dn g⟩
theorem S1x.expr (h : EMx X e ρ M R fun _ M1 => O.nx ρ M1) (hs : swapsWith e none pos.line X.env = pure false := by rfl) : S1x X (.Expr e pos) ρ M R O := ⟨fun W tk F σ B H hr hx l Dn g =>
  WS.of (ps_expr WE.pe hs) (h.run W tk F σ B H hr hx l _ fun d M1 v B1 H1 h1 s1 x1 r1 => g.nx ρ M1 σ B1 H1 h1 s1 (hr.mono s1) x1)⟩
theorem S1x.ret (h : EMx X e ρ M R O.rt) : S1x X (.Return (some e) pos) ρ M R O := ⟨fun W tk F σ B H hr hx l Dn g =>
  WS.of (ps_ret WE.pe) (h.run W tk F σ B H hr hx l _ fun d M1 v B1 H1 h1 s1 x1 r1 => g.rt d M1 v B1 H1 h1 s1 r1 x1)⟩
theorem S1x.ife (h : TMx X c ρ M R fun k M1 => if k = true then SMx X body ρ M1 R O else SMx X orelse ρ M1 R O) : S1x X (.If c body orelse pos) ρ M R O := ⟨fun W tk F σ B H hr hx l Dn g =>
  WS.of (ps_if WT.pt WSs.ps WSs.ps) (h.run W tk F σ B H hr hx l _ fun k M1 B1 H1 p s1 x1 => by
    cases k with
    | true => exact (it1 p).run W tk F σ B1 H1 (hr.mono s1) x1 (l.mono s1) Dn (g.mono s1)
    | false => exact (it0 p).run W tk F σ B1 H1 (hr.mono s1) x1 (l.mono s1) Dn (g.mono s1))⟩
theorem S1x.set {x : Str} {pos' : Pos} (c : Ctx X N sc) (h : EMx X e ρ M R fun d M1 => ∃ ρ', Put N ρ x (some d) ρ' ∧ O.nx ρ' M1) (hl : locB sc x = true := by decide +kernel) (hs : swapsWith e (some (.Name x pos')) pos.line X.env = pure false := by rfl) : S1x X (.Assign [.Name x pos'] e pos) ρ M R O := ⟨fun W tk F σ B H hr hx l Dn g pins s I => by
  obtain ⟨h3, h4⟩ := c.sto x hl
  refine wpAny_Assign_Name (thn (h.run W tk F σ B H hr hx l (fun v H1 => ∃ i : Nat, N[i]? = some x ∧ Dn.nx (σ.set i (some v)) H1) (fun d M1 v B1 H1 ⟨ρ', h1, h2⟩ s1 x1 r1 => ?_) pins s I) fun v s1 ⟨y, H1, I1, r1, q1⟩ => ?_) hs
  · obtain ⟨i, e1, e2⟩ := h1.ix
    exact ⟨i, e1, g.nx ρ' M1 _ B1 H1 h2 s1 (by rw [e2]; exact (hr.mono s1).set r1) x1⟩
  · obtain ⟨i, e1, q1⟩ := q1
    exact store_ok I1 (by rw [c.nm]; exact c.nd) (by rw [c.nm]; exact e1) h3 r1 (fun s2 I2 => ⟨_, H1, I2, q1⟩) h4⟩
/-- for: an invariant by the turn, the slots, the memory -/
def ForPx (X : Cx) (N : List Str) (tg : Expr) (body : List Stmt) (ρ : Rho) (R : XR) (P : Out) (l : List D) (M1 : Mem) : Prop := ∃ I : Nat → Rho → Mem → Prop, I 0 ρ M1 ∧
  (∀ i x ρ' M', l[i]? = some x → I i ρ' M' → ∃ ρ'' xs, GM X N tg xs x ρ' ρ'' ∧ SMx X body ρ'' M' R { nx := I (i + 1), ct := I (i + 1), rt := P.rt, bk := P.nx }) ∧ ∀ ρ' M', I l.length ρ' M' → P.nx ρ' M'
theorem S1x.forr (c : Ctx X N sc) (h : IW X tg iter ρ M (ForPx X N tg body ρ R O)) (hs : ∀ x, foldedSetIterable iter X.env x = pure x := by intro _; rfl) : S1x X (.For tg iter body [] pos) ρ M R O := ⟨fun W tk F σ B H hr hx lt Dn g => by
  obtain ⟨wi, hp, hi⟩ := h
  refine WS.of (ps_for c.po c.calm hp WG.pg WSs.ps hs) (hi F σ B H hr hx _ fun l J M1 B1 H1 ⟨I, i0, turn, fin⟩ s1 x1 Y => ?_)
  refine ⟨fun i m σ' H' => m = l.length - i ∧ i ≤ l.length ∧ ∃ ρ' M' B', I i ρ' M' ∧ Same B1 B' ∧ EnvRep X.K B' σ' ρ' ∧ Holds X.K B' (M' ++ F) H', ⟨l.length, by simp, Nat.zero_le _, ρ, M1, B1, i0, Same.refl _, hr.mono s1, x1⟩, ?_⟩
  rintro i m σ' H' ⟨rfl, hi', ρ', M', B', hI, s2, r2, x2⟩
  have sH : Same B1 H' := s2.trans x2.fr
  by_cases hlt : i < l.length
  · refine .inr ⟨Y.go i H' sH hlt, fun σ' H' => (i + 1 ≤ l.length ∧ ∃ ρ' M' B', I (i + 1) ρ' M' ∧ Same B1 B' ∧ EnvRep X.K B' σ' ρ' ∧ Holds X.K B' (M' ++ F) H'), fun σ'' H'' ⟨a, b⟩ => ⟨l.length - (i + 1), by omega, rfl, a, b⟩, fun x H'' hy => ?_⟩
    obtain ⟨rfl, d, hd, rd⟩ := Y.yld i H' x H'' sH hlt hy
    obtain ⟨ρ'', xs, hg, hb⟩ := turn i d ρ' M' hd hI
    refine hg σ' B' _ _ x r2 x2 (rd.mono s2) _ fun σ2 r3 _ => ?_
    refine hb.run W tk F σ2 B' _ r3 x2 (lt.mono (s1.trans s2)) _ ⟨fun ρ3 M3 σ3 B3 H3 p s r x => ⟨hlt, ρ3, M3, B3, p, s2.trans s, r, x⟩, fun d3 M3 v3 B3 H3 p s r x => g.rt d3 M3 v3 B3 H3 p (s1.trans (s2.trans s)) r x,
      fun ρ3 M3 σ3 B3 H3 p s r x => g.nx ρ3 M3 σ3 B3 H3 p (s1.trans (s2.trans s)) r x, fun ρ3 M3 σ3 B3 H3 p s r x => ⟨hlt, ρ3, M3, B3, p, s2.trans s, r, x⟩⟩
  · have e : i = l.length := by omega
    subst e
    exact .inl ⟨Y.stop H' sH, g.nx ρ' M' σ' B' H' (fin ρ' M' hI) (s1.trans s2) r2 x2⟩⟩
/-! ### expressions that may raise -/
theorem EMx.ife (h : TM X c ρ M fun k M1 => if k = true then EMx X a ρ M1 R P else EMx X b ρ M1 R P) : EMx X (.IfExp c a b pos) ρ M R P := ⟨fun W tk F σ B H hr hx l Q q =>
  WE.of (pe_ifExp WT.pt WE.pe WE.pe) (h F σ B H hr hx _ fun k M1 B1 H1 p s x => by
    cases k with
    | true => exact (it1 p).run W tk F σ B1 H1 (hr.mono s) x (l.mono s) Q fun b' M' v' B' H' p' s' => q b' M' v' B' H' p' (s.trans s')
    | false => exact (it0 p).run W tk F σ B1 H1 (hr.mono s) x (l.mono s) Q fun b' M' v' B' H' p' s' => q b' M' v' B' H' p' (s.trans s'))⟩
theorem TMx.w {P : Bool → Mem → Prop} (h : WMx X e ρ M R P) : TMx X e ρ M R P := ⟨fun W tk F σ B H hr hx l Q q => WT.of (WW.pw.pt) (h.run W tk F σ B H hr hx l Q q)⟩
theorem WMx.and1 {P : Bool → Mem → Prop} (h : TMx X a ρ M R P) : WMx X (.BoolOp .And [a] pos) ρ M R P := ⟨fun W tk F σ B H hr hx l Q q => WW.of (pw_and1 WT.pt) (h.run W tk F σ B H hr hx l Q q)⟩
theorem WMx.and {r : List Expr} {P : Bool → Mem → Prop} (h : TMx X a ρ M R fun k M1 => if k = true then WMx X (.BoolOp .And (b :: r) pos) ρ M1 R P else P false M1) : WMx X (.BoolOp .And (a :: b :: r) pos) ρ M R P := ⟨fun W tk F σ B H hr hx l Q q =>
  WW.of (pw_and WT.pt WW.pw) (h.run W tk F σ B H hr hx l _ fun k M1 B1 H1 p s x => by
    cases k with
    | true => exact (it1 p).run W tk F σ B1 H1 (hr.mono s) x (l.mono s) Q fun b' M' B' H' p' s' => q b' M' B' H' p' (s.trans s')
    | false => exact q false M1 B1 H1 p s x)⟩
theorem TMx.cmp {op : CmpOp} {r : R2} {DRr : DR} {P : Bool → Mem → Prop} (ho : OpR X (compareOp op) r) (hd : DOp X.K r DRr) (h : EMx X a ρ M R fun d M1 => EM X b ρ M1 fun e M2 => DRr d e M2 fun z M3 => ∃ k, z = .bl k ∧ P k M3) (hm : behindInMarks op b = false := by first | exact nomark _ | rfl) : TMx X (.Compare a [op] [b] pos) ρ M R P := ⟨fun W tk F σ B H hr hx l Q q =>
  WT.of (pt_cmpR ho WE.pe WE.pe hm) (by
    show WE X a σ H fun x H1 => WE X b σ H1 fun y H2 => r x y H2 _
    refine h.run W tk F σ B H hr hx l _ fun d M1 x B1 H1 h1 s1 x1 r1 => ?_
    refine h1 F σ B1 H1 (hr.mono s1) x1 _ fun e M2 y B2 H2 h2 s2 x2 r2 => ?_
    refine hd F B2 M2 H2 x y d e _ _ x2 (r1.mono s2) r2 h2 fun z M3 v B' H' ⟨k, ez, p⟩ s3 x3 r3 => ?_
    subst ez
    cases r3
    exact ⟨k, rfl, q k M3 B' H' p (s1.trans (s2.trans s3)) x3⟩)⟩
theorem AMx.cons {P : List D → Mem → Prop} (h : EMx X e ρ M R fun d M1 => AM X es ρ M1 fun ds M2 => P (d :: ds) M2) (hs : starEach (e :: es) X.env = (false, eval e X.env) :: starEach es X.env := by rfl) : AMx X (e :: es) ρ M R P := ⟨fun W tk F σ B H hr hx l Q q =>
  WA.of (pa_cons WE.pe WA.pa hs) (h.run W tk F σ B H hr hx l _ fun d M1 v B1 H1 h1 s1 x1 r1 => h1 F σ B1 H1 (hr.mono s1) x1 _ fun ds M2 vs B2 H2 p s2 x2 r2 => q (d :: ds) M2 (v :: vs) B2 H2 p (s1.trans s2) x2 (.cons (r1.mono s2) r2))⟩
end
/-! ### calls of the text's own defs that may raise -/
abbrev DAx := List D → Mem → (D → Mem → Prop) → (Er → Mem → Prop) → Prop
def spX (K : PySem.W.Frag) (S : DAx) : Sp := fun vs H Q E => ∃ (F : Mem) (B : Hp) (M : Mem) (ds : List D), Reps K B vs ds ∧ Holds K B (M ++ F) H ∧
  S ds M (fun d M' => ∀ v B' H', Same B B' → Holds K B' (M' ++ F) H' → Rep K B' v d → Q v H') (fun x M' => ∀ cls d B' H', Same B B' → Holds K B' (xmem K d x ++ (M' ++ F)) H' → RepX cls d x → E cls d H')
def DMonoX (S : DAx) : Prop := ∀ ds M (P P' : D → Mem → Prop) (R R' : Er → Mem → Prop), (∀ d M', P d M' → P' d M') → (∀ x M', R x M' → R' x M') → S ds M P R → S ds M P' R'
def DLenX (S : DAx) (n : Nat) : Prop := ∀ ds M (P : D → Mem → Prop) R, S ds M P R → ds.length = n
structure Gx (P : Program) (w : World) (K : PySem.W.Frag) (mg : Str → Option Value) (base : Heap) (x : Str) (k : Nat) (ps : List Str) (S : DAx) : Prop where
  ex : ∃ (f : Addr) (fd : FuncData), FnOk P w K mg base (L2.CX P w) k f fd ps (spX K S) ∧ mg x = some (.ref f) ∧ PySem.W.keepIn K (.ref f) = true ∧ Binds K fd ps []
  mono : DMonoX S
section
variable {X : Cx} {N : List Str} {sc scope : Scope} {ρ ρ' ρw : Rho} {M : Mem} {R : XR} {P : D → Mem → Prop} {O : Out} {e a b c o elt tg iter : Expr} {es : List Expr} {xs : List Str} {pos : Pos} {st : Stmt} {rest body orelse : List Stmt}
theorem EMx.callF {x : Str} {k j : Nat} {ps : List Str} {S : DAx} {p : Pos} (c : Ctx X N sc) (hr : Room j X.A) (G : Gx X.prog X.w X.K X.mg X.base x k ps S) (h : AM X (e :: es) ρ M fun ds M1 => ∃ Ma Mb, M1 = Ma ++ Mb ∧ S ds Ma (fun d M' => P d (M' ++ Mb)) (fun x M' => R x ρ (M' ++ Mb))) (hk : k ≤ j := by decide)
    (hg : glB sc x = true := by decide +kernel) (hdb : (x == ("__debug__" : Str)) = false := by decide +kernel)
    (he : starEach (e :: es) X.env = (false, eval e X.env) :: starEach es X.env := by rfl) (hpl : (backTo pos (starEach es X.env)).any (·.1) = false := by rfl) : EMx X (.Call (.Name x p) (e :: es) [] pos) ρ M R P := ⟨fun W tk F σ B H hρ hx l Q q => by
  obtain ⟨f, fd, g, hm, hkp, hb⟩ := G.ex
  refine WE.of (pe_callS (E := L2.WE W) g (hr.mono hk) (c.gl x hg) hm hkp hb (fun σ => passAt tk σ) WA.pa hdb he hpl) (h F σ B H hρ hx _ fun ds M1 vs B1 H1 ⟨Ma, Mb, e1, h1⟩ s1 x1 r1 => ?_)
  subst e1
  rw [List.append_assoc] at x1
  exact ⟨Mb ++ F, B1, Ma, ds, r1, x1, G.mono ds Ma _ _ _ _ (fun d M' p v B' H' s x r => q d (M' ++ Mb) v B' H' p (s1.trans s) (by rw [List.append_assoc]; exact x) r)
    (fun x M' p cls d B' H' s y r => l x ρ (M' ++ Mb) cls d σ B' H' p (s1.trans s) (hρ.mono (s1.trans s)) (by rw [List.append_assoc M' Mb F]; exact y) r) h1⟩⟩
theorem EMx.call {x : Str} {k j : Nat} {ps : List Str} {S : DAx} {p : Pos} (c : Ctx X N sc) (hr : Room j X.A) (G : Gx X.prog X.w X.K X.mg X.base x k ps S) (h : AM X (e :: es) ρ M fun ds M1 => S ds [] (fun d M' => M' = [] ∧ P d M1) (fun x M' => M' = [] ∧ R x ρ M1)) (hk : k ≤ j := by decide)
    (hg : glB sc x = true := by decide +kernel) (hdb : (x == ("__debug__" : Str)) = false := by decide +kernel)
    (he : starEach (e :: es) X.env = (false, eval e X.env) :: starEach es X.env := by rfl) (hpl : (backTo pos (starEach es X.env)).any (·.1) = false := by rfl) : EMx X (.Call (.Name x p) (e :: es) [] pos) ρ M R P :=
  EMx.callF c hr G (h.to fun ds M1 h1 => ⟨[], M1, rfl, G.mono ds [] _ _ _ _ (fun d M' ⟨e1, p⟩ => by rw [e1]; exact p) (fun x M' ⟨e1, p⟩ => by rw [e1]; exact p) h1⟩) hk hg hdb he hpl
end
/-- THE RULE for a def that may raise -/
theorem ok_fnX {P : Program} {w : World} {K : PySem.W.Frag} {mg : Str → Option Value} {base : Heap} {x qual : Str} {st : Stmt} {f : Addr} {fd : FuncData} {N ps : List Str} {k : Nat} {S : DAx} (F : Fun K x qual st f fd) (sc : FnScope N ps (defScope st)) (hl : DLenX S ps.length)
    (body : ∀ X : Cx, X.prog = P → X.w = w → X.K = K → X.mg = mg → X.base = base → Ctx X N (defScope st) → Room k X.A → ∀ ds M (Q : D → Mem → Prop) (R : Er → Mem → Prop), S ds M Q R → SMx X (defBody st) (startD N ds) M (fun x _ M' => R x M') { nx := fun _ M' => Q .non M', rt := Q }) : FnOk P w K mg base (L2.CX P w) (k + 1) f fd ps (spX K S) := by
  refine F.okX sc (fun vs H Q E h => ?_) (fun cdv A outer s H vs Q E hr h => ?_)
  · obtain ⟨F, B, M, ds, r, _, h⟩ := h
    rw [r.length]
    exact hl _ _ _ _ h
  · obtain ⟨F, B, M, ds, r, x, h⟩ := h
    refine ⟨_, WSs.ps, ?_⟩
    refine (body (cxOf (L2.CX P w) P w K mg base N qual (defScope st) f cdv A outer s H E) rfl rfl rfl rfl rfl (Ctx.fn rfl sc.nd rfl rfl sc.kind (fun _ => rfl) (passes_of rfl)) hr ds M _ _ h).run (fun cls d _ H => E cls d H) (takes_of rfl rfl rfl rfl) F (L2.start N vs) B H (start_rep r) x
      (fun x ρ M cls d σ B' H p s _ y r => p cls d B' H s y r) _ ⟨fun ρ M σ B' H' p s _ x => p _ B' H' s x .non, fun d M v B' H' p s r x => p v B' H' s x r, fun _ _ _ _ _ p => p.elim, fun _ _ _ _ _ p => p.elim⟩
theorem ok_defX {P : Program} {w : World} {K : PySem.W.Frag} {mg : Str → Option Value} {base : Heap} {x qual : Str} {st : Stmt} {f : Addr} {fd : FuncData} {N ps : List Str} {k : Nat} {S : DAx} (F : Fun K x qual st f fd) (sc : FnScope N ps (defScope st)) (hm : mg x = some (.ref f)) (hb : Binds K fd ps []) (mono : DMonoX S) (hl : DLenX S ps.length)
    (body : ∀ X : Cx, X.prog = P → X.w = w → X.K = K → X.mg = mg → X.base = base → Ctx X N (defScope st) → Room k X.A → ∀ ds M (Q : D → Mem → Prop) (R : Er → Mem → Prop), S ds M Q R → SMx X (defBody st) (startD N ds) M (fun x _ M' => R x M') { nx := fun _ M' => Q .non M', rt := Q }) : Gx P w K mg base x (k + 1) ps S :=
  ⟨⟨f, fd, ok_fnX F sc hl body, hm, F.kp, hb⟩, mono⟩
end Dl
namespace Dl
open PySem PySem.Spec PyProof.Rows L2
/-! ### own errors: their making, raise -/
section
variable {X : Cx} {c : Str} {CE : Addr} {mc : Value} {e : Expr} {es : List Expr} {p1 p2 pos : Pos} {ta : TA}
/-- an own class above, named: its __init__ is the one of ValueError -/
theorem pe_ceinit {pl : Sem Bool} (hg : Gl X c) (hm : X.mg c = some (.ref CE)) (rd : ClX.CRead X.K CE mc) (at_ : PySem.W.findCls X.K (.ref CE) mc "__init__" = some (.val (.builtin "ValueError.__init__"))) (args : PA X (e :: es) ta)
    (hdb : (c == ("__debug__" : Str)) = false := by decide)
    (hc : eval (.Call (.Attribute (.Name c p1) "__init__" p2) (e :: es) [] pos) X.env = (do
      let cls ← eval (.Name c p1) X.env
      standAt p2.atName
      let (f, first) ← holding [cls] (getMethod cls "__init__" pl)
      callWith pos f first (backTo pos (starEach (e :: es) X.env)) (backToKw pos (keywordEach [] X.env))) := by rfl)
    (he : starEach (e :: es) X.env = (false, eval e X.env) :: starEach es X.env := by rfl) (hpl : (backTo pos (starEach es X.env)).any (·.1) = false := by rfl) :
    PE X (.Call (.Attribute (.Name c p1) "__init__" p2) (e :: es) [] pos) (tVeI X.K ta) := ⟨fun pins s σ H Q I h => by
  refine PySem.W.methodCall_KW (ld_glob I hg hm (PySem.W.method_cls I.kIn rd.ga (PySem.W.cls_value I.kIn rd.rd at_ rfl ?_)) hdb) hc
  show wpAny _ _ (callWith pos (Value.builtin "ValueError.__init__") [] (backTo pos (starEach (e :: es) X.env)) []) _ _ _
  refine PyProof.Rows.callWith_method1 (thn (args.run pos pins _ σ H _ (I.tok _) h) fun us s1 hh => ?_) he hpl
  obtain ⟨vs, H1, J, rv, a, C, ws, e1, few, T, ea, q⟩ := hh
  rw [e1] at rv
  cases rv with
  | @cons _ u _ ur r0 rr =>
    have eu : u = Value.ref a := r0
    rw [eu]
    exact oinit_ok T J ea (by have := Paired.length rr; rw [sizeLine_eq]; omega) fun s2 J2 => ⟨.non, H1, J2, rfl, q⟩⟩
end
/-- C's own __init__: one field, f -/
def spIni (C : Addr) (f : Str) : Sp := fun vs H Q E => ∃ (a : Addr) (v : V), vs = [.ref a, v] ∧ H a = some (exo a C none) ∧ ∀ dx, H dx = none → dx ≠ a → Q .non (L2.upd (L2.upd H dx (exd dx [(f, v)])) a (exo a C (some dx)))
/-- what the top tells of the class at C, whose base's name is c -/
structure OwnC (K : PySem.W.Frag) (mg : Str → Option Value) (c : Str) (C CE : Addr) (f : Str) : Prop where
  T : OexC K C
  nf : PySem.W.findIn K (.ref C) f = some none
  gB : mg c = some (.ref CE)
  rd : ClX.CRead K CE (.type "type")
  at_ : PySem.W.findCls K (.ref CE) (.type "type") "__init__" = some (.val (.builtin "ValueError.__init__"))
theorem ok_ini {P : Program} {w : World} {K : PySem.W.Frag} {mg : Str → Option Value} {base : Heap} {qual f x y : Str} {st : Stmt} {fI C CE : Addr} {fd : FuncData} {p1 p2 p3 p4 p5 p6 p7 p8 p9 p10 : Pos} {pl : PySem.Env → Sem Bool}
    (F : Fun K "__init__" qual st fI fd) (sc : FnScope [x, y] [x, y] (defScope st)) (O : OwnC K mg "CountError" C CE f)
    (hb : defBody st = [.Expr (.Call (.Attribute (.Name "CountError" p1) "__init__" p2) [.Name x p3, .Name y p4] [] p5) p6, .Assign [.Attribute (.Name x p7) f p8] (.Name y p9) p10] := by rfl)
    (hcall : ∀ env : PySem.Env, eval (.Call (.Attribute (.Name "CountError" p1) "__init__" p2) [.Name x p3, .Name y p4] [] p5) env = (do
      let cls ← eval (.Name "CountError" p1) env
      standAt p2.atName
      let (f, first) ← holding [cls] (getMethod cls "__init__" (pl env))
      callWith p5 f first (backTo p5 (starEach [.Name x p3, .Name y p4] env)) (backToKw p5 (keywordEach [] env))) := by intro _; rfl)
    (hsw : ∀ env : PySem.Env, swapsWith (.Name y p9) (some (.Attribute (.Name x p7) f p8)) p10.line env = pure false := by intro _; rfl)
    (hs0 : ∀ env : PySem.Env, swapsWith (.Call (.Attribute (.Name "CountError" p1) "__init__" p2) [.Name x p3, .Name y p4] [] p5) none p6.line env = pure false := by intro _; rfl)
    (hx : visB (defScope st) x = true := by decide +kernel) (hy : visB (defScope st) y = true := by decide +kernel) (hc : glB (defScope st) "CountError" = true := by decide +kernel)
    (dx : (x == ("__debug__" : Str)) = false := by decide +kernel) (dy : (y == ("__debug__" : Str)) = false := by decide +kernel) (cx : (x == ("__classdict__" : Str)) = false := by decide +kernel) (cy : (y == ("__classdict__" : Str)) = false := by decide +kernel) : FnOk P w K mg base CX0 1 fI fd [x, y] (spIni C f) := by
  refine F.ok sc (fun vs H Q E ⟨a, v, e, _⟩ => by subst e; rfl) (fun cdv A outer s H vs Q E hr ⟨a, v, e, ha, q⟩ => ?_)
  subst e
  have v0 : ∀ p, PE (cxOf CX0 P w K mg base [x, y] qual (defScope st) fI cdv A outer s H E).nox (.Name x p) (tVar 0) := fun p => pe_var rfl (vis_of hx) dx cx
  have v1 : ∀ p, PE (cxOf CX0 P w K mg base [x, y] qual (defScope st) fI cdv A outer s H E).nox (.Name y p) (tVar 1) := fun p => pe_var rfl (vis_of hy) dy cy
  rw [hb]
  refine ⟨_, pss_cons (ps_expr (pe_ceinit (gl_of hc) O.gB O.rd O.at_ (pa_cons (v0 p3) (pa_cons (v1 p4) pa_nil)) (by decide) (hcall _)) (hs0 _)) (pss_one (ps_ost (v0 p7) (v1 p9) (hsw _))), ?_⟩
  refine ⟨_, rfl, _, rfl, a, C, [v], rfl, (by show 1 ≤ 1000; decide), O.T, ha, ?_⟩
  exact ⟨_, rfl, _, rfl, a, C, rfl, O.T, O.nf, .inl ⟨ha, fun dx n ne => q dx n ne⟩⟩
/-- the class named x may be raised with its one field -/
structure OwnX (P : Program) (w : World) (K : PySem.W.Frag) (mg : Str → Option Value) (base : Heap) (x : Str) (k : Nat) (C : Addr) (f : Str) : Prop where
  gC : mg x = some (.ref C)
  T : OexC K C
  ex : ∃ (fI : Addr) (fd : FuncData) (ps : List Str), PySem.W.findIn K (.ref C) "__init__" = some (some (.ref fI)) ∧ PySem.W.typeIn K (.ref fI) = some (.type "function") ∧ FnOk P w K mg base CX0 k fI fd ps (spIni C f) ∧ Binds K fd ps []
/-- .. without a field -/
structure BareX (K : PySem.W.Frag) (mg : Str → Option Value) (x : Str) (C : Addr) : Prop where
  gC : mg x = some (.ref C)
  q : PySem.W.excIn K C [.type "ValueError", .type "Exception", .type "BaseException", .type "object"] "ValueError.__new__" = true
  kC : PySem.W.keepIn K (.ref C) = true
  sub : PySem.W.subIn K (.ref C) (.type "BaseException") = some true
  ty : PySem.W.typeIn K (.ref C) = some (.type "type")
theorem upd_ini {H : Hp} {a dx : Addr} {e0 e1 x1 x2 : HO} (na : H a = none) (ne : dx ≠ a) : L2.upd (del (L2.upd (L2.upd (L2.upd H a e0) dx x1) a e1) a) dx x2 = L2.upd H dx x2 := by
  funext b
  by_cases hb : b = dx
  · subst hb
    rw [upd_same, upd_same]
  · rw [upd_ne hb, upd_ne hb]
    by_cases hc : b = a
    · subst hc
      rw [del_same, na]
    · rw [del_ne hc, upd_ne hc, upd_ne hb, upd_ne hc]
section
variable {X : Cx} {N : List Str} {sc : Scope} {ρ : Rho} {M : Mem} {R : XR} {O : Out} {e : Expr} {pos p p2 : Pos}
theorem S1x.raise {x f : Str} {C : Addr} {k j : Nat} (c : Ctx X N sc) (hr : Room j X.A) (G : OwnX X.prog X.w X.K X.mg X.base x k C f) (h : EM X e ρ M fun d M1 => R ⟨C, [(f, d)]⟩ ρ M1) (hk : k + 1 ≤ j := by decide)
    (hg : glB sc x = true := by decide +kernel) (hdb : (x == ("__debug__" : Str)) = false := by decide +kernel)
    (he : starEach [e] X.env = (false, eval e X.env) :: starEach [] X.env := by rfl) (hpl : (backTo p2 (starEach [] X.env)).any (·.1) = false := by rfl) : S1x X (.Raise (some (.Call (.Name x p) [e] [] p2)) none pos) ρ M R O := ⟨fun W tk F σ B H hρ hx l Dn g => by
  obtain ⟨fI, fd, ps, iC, tI, F1, hb⟩ := G.ex
  refine WS.of (ps_raise c.calm tk (pmk_oex (ds := []) (dvs := []) G.T iC tI F1 (hr.mono hk) hb .nil pass0 (c.gl x hg) G.gC (pa_cons WE.pe pa_nil he) hdb he hpl)) ?_
  refine h F σ B H hρ hx _ fun d M1 v B1 H1 h1 s1 x1 r1 => ?_
  refine ⟨(by show 1 ≤ 1000; decide), fun a na => ⟨a, v, rfl, upd_same, fun dx n ne => ⟨rfl, dx, [(f, v)], upd_same, by rw [upd_ne ne, upd_same], ?_, ?_⟩⟩⟩
  · rw [upd_ne ne] at n
    exact n
  · rw [upd_ne ne] at n
    rw [upd_ini na ne]
    exact l ⟨C, [(f, d)]⟩ ρ M1 (.ref C) (some dx) σ B1 _ h1 s1 (hρ.mono s1) (x1.alloc (mo := .dic (xphi X.K [(f, d)])) n (.dic ⟨_, rfl, .cons r1 .nil⟩ (fun B' s' => ⟨_, rfl, .cons (r1.mono s') .nil⟩) (fun xs z => by cases z))) ⟨rfl, fun z => nomatch z⟩⟩
theorem S1x.raise0 {x m : Str} {C : Addr} {j : Nat} {p3 : Pos} (c : Ctx X N sc) (G : BareX X.K X.mg x C) (h : R ⟨C, []⟩ ρ M)
    (hg : glB sc x = true := by decide +kernel) (hdb : (x == ("__debug__" : Str)) = false := by decide +kernel) : S1x X (.Raise (some (.Call (.Name x p) [.Constant (.str m) j p2] [] p3)) none pos) ρ M R O := ⟨fun W tk F σ B H hρ hx l Dn g =>
  WS.of (ps_raise c.calm tk (pmk_own PySem.F.excBase_ValueError G.q G.gC G.kC (raises_own G.sub G.ty) (c.gl x hg) hdb)) (l ⟨C, []⟩ ρ M (.ref C) none σ B H h (Same.refl B) hρ hx ⟨rfl, fun _ => rfl⟩)⟩
end
end Dl
namespace Dl
open PySem PySem.Spec PyProof.Rows L2
/-! ### try: body, except c as n: suite -/
/-- as Ctx, where an error is handled -/
structure Ctx0 (X : Cx) (N : List Str) (sc : Scope) : Prop where
  nm : X.N = N
  nd : N.Nodup
  vis : ∀ x, visB sc x = true → Vis X.env.scope x
  gl : ∀ x, glB sc x = true → Gl X x
  sto : ∀ x, locB sc x = true → L2.Loc X.env.scope x ∧ (X.fn x = true ∨ X.env.scope.names.lookup x = some .local)
section
variable {X : Cx} {N : List Str} {sc : Scope} {ρ ρ' : Rho} {M : Mem} {R : XR} {P : D → Mem → Prop} {O : Out} {e a : Expr} {es : List Expr} {pos : Pos}
theorem Ctx.low (c : Ctx X N sc) : Ctx0 X N sc := ⟨c.nm, c.nd, c.vis, c.gl, c.sto⟩
theorem Ctx.suite (c : Ctx X N sc) (x : Addr) (pn : List (Addr × Obj)) : Ctx0 (X.suite x pn) N sc := ⟨c.nm, c.nd, c.vis, fun x h => c.gl x h, c.sto⟩
theorem Ctx.try (c : Ctx X N sc) (pn : List (Addr × Obj)) (xe : Value → Shared → Prop) (po : PassesOwn (model X.prog X.w) X.A X.env xe) : Ctx (X.tr pn xe) N sc := ⟨c.nm, c.nd, c.calm, c.kind, po, c.vis, fun x h => c.gl x h, c.sto, c.cf, c.lcl⟩
theorem EM.var0 {x : Str} {d : D} (c : Ctx0 X N sc) (h : At N ρ x d) (p : P d M) (hv : visB sc x = true := by decide +kernel) (hd : (x == ("__debug__" : Str)) = false := by decide +kernel) (hcd : (x == ("__classdict__" : Str)) = false := by decide +kernel) : EM X (.Name x pos) ρ M P := ⟨fun F σ B H r hx Q q => by
  obtain ⟨i, h1, h2⟩ := h.ix
  obtain ⟨v, h3, h4⟩ := r.at' i d h2
  exact WE.of (pe_var (i := i) (by rw [c.nm]; exact h1) (c.vis x hv) hd hcd) ⟨v, h3, q d M v B H p (Same.refl B) hx h4⟩⟩
theorem EM.glob0 {x : Str} {v : V} {u : Value} {d : D} (c : Ctx0 X N sc) (hm : X.mg x = some u) (rv : RelV v u) (hr : ∀ B, Rep X.K B v d) (p : P d M) (hg : glB sc x = true := by decide +kernel) (hd : (x == ("__debug__" : Str)) = false := by decide +kernel) : EM X (.Name x pos) ρ M P := ⟨fun F σ B H r hx Q q =>
  WE.of (pe_glob (c.gl x hg) hm rv hd) (q d M v B H p (Same.refl B) hx (hr B))⟩
theorem EM.bltn0 {x : Str} {v : V} {u : Value} (c : Ctx0 X N sc) (hm : X.mg x = none) (hv : bootBuiltins x = some u) (rv : RelV v u) (p : P (.raw v) M) (hg : glB sc x = true := by decide +kernel) (hn : x ≠ "__name__" := by decide +kernel) (hd : (x == ("__debug__" : Str)) = false := by decide +kernel) : EM X (.Name x pos) ρ M P := ⟨fun F σ B H r hx Q q =>
  WE.of (pe_bltn (c.gl x hg) hm hv rv hn hd) (q _ M v B H p (Same.refl B) hx (.raw v))⟩
theorem S1.set0 {x : Str} {pos' : Pos} (c : Ctx0 X N sc) (h : EM X e ρ M fun d M1 => ∃ ρ', Put N ρ x (some d) ρ' ∧ O.nx ρ' M1) (hl : locB sc x = true := by decide +kernel) (hs : swapsWith e (some (.Name x pos')) pos.line X.env = pure false := by rfl) : S1 X (.Assign [.Name x pos'] e pos) ρ M O := ⟨fun F σ B H hr hx Dn g pins s I => by
  obtain ⟨h3, h4⟩ := c.sto x hl
  refine wpAny_Assign_Name (thn (h F σ B H hr hx (fun v H1 => ∃ i : Nat, N[i]? = some x ∧ Dn.nx (σ.set i (some v)) H1) (fun d M1 v B1 H1 ⟨ρ', h1, h2⟩ s1 x1 r1 => ?_) pins s I) fun v s1 ⟨y, H1, I1, r1, q1⟩ => ?_) hs
  · obtain ⟨i, e1, e2⟩ := h1.ix
    exact ⟨i, e1, g.nx ρ' M1 _ B1 H1 h2 s1 (by rw [e2]; exact (hr.mono s1).set r1) x1⟩
  · obtain ⟨i, e1, q1⟩ := q1
    exact store_ok I1 (by rw [c.nm]; exact c.nd) (by rw [c.nm]; exact e1) h3 r1 (fun s2 I2 => ⟨_, H1, I2, q1⟩) h4⟩
/-- the rule: every error that the body lets out is of the class that is named, and the suite returns -/
theorem S1.try {x n : Str} {cv : Value} {body suite : List Stmt} {b₀ : Stmt} {np pos' : Pos} (c : Ctx X N sc) (hs : X.stack = X.env :: X.outer) (hf : X.env.frame = some X.env.locals)
    (hm : X.mg x = some cv ∨ (X.mg x = none ∧ bootBuiltins x = some cv ∧ x ≠ "__name__")) (ρe : Rho) (Re : Er → Mem → Prop)
    (hbody : ∀ pn xe, Ctx (X.tr pn xe) N sc → SMx (X.tr pn xe) body ρ M (fun y ρ' M' => ρ' = ρe ∧ Re y M') O)
    (hcls : ∀ y M', Re y M' → PySem.W.exmOne X.K (.ref y.C) cv = some true)
    (hsuite : ∀ y M' ad oe d pn, Re y M' → Zc (.ref y.C) d oe → (∃ vs, oe.data = .fields vs) → (d = none → y.fs = []) → ∃ ρ', Put N ρe n (some (.raw (.ref ad))) ρ' ∧ SM (X.suite ad ((ad, oe) :: pn)) (b₀ :: suite) ρ' (xmem X.K d y ++ M') { nx := fun _ _ => False, rt := O.rt })
    (hg : glB sc x = true := by decide +kernel) (hd : (x == ("__debug__" : Str)) = false := by decide +kernel) (hin : N.contains n = true := by decide +kernel) (hl : lclB sc n = true := by decide +kernel) :
    S1 X (.Try body [.ExceptHandler (some (.Name x np)) (some n) (b₀ :: suite) pos'] [] [] pos) ρ M O := ⟨fun F σ B H hr hx Dn g => by
  obtain ⟨i, e1⟩ := List.mem_iff_getElem?.mp (show n ∈ N by simpa using hin)
  refine WS.of (ps_try_as (i := i) (tb := fun W D σ H => ∀ pn xe, Takes (X.tr pn xe) W → PassesOwn (model X.prog X.w) X.A X.env xe → WSs (X.tr pn xe) body D σ H)
    (ts := fun ad cls d D σ H => ∀ oe pn, Zc cls d oe → (∃ vs, oe.data = .fields vs) → WSs (X.suite ad ((ad, oe) :: pn)) (b₀ :: suite) D σ H) (Wout := fun _ _ _ _ => False)
    hs hf (by rw [c.nm]; exact c.nd) (by rw [c.nm]; exact e1) (c.lcl n hl) ⟨c.gl x hg, hd, hm⟩ takes0
    (fun W pn xe tk po => ⟨fun pins s σ H D I h => h pn xe tk po pins s I⟩) (fun ad oe cls d pn hz hv => ⟨fun pins s σ H D I h => h oe pn hz hv pins s I⟩)) ?_
  intro pn xe tk po
  refine (hbody pn xe (c.try pn xe po)).run _ tk F σ B H hr hx (fun y ρ' M' cls d σ' B' H' hR s r xx hrx => ?_) Dn g
  obtain ⟨e2, hR⟩ := hR
  obtain ⟨e3, hd0⟩ := hrx
  subst e2 e3
  refine ⟨true, hcls y M' hR, fun _ ad na => ?_, fun z => nomatch z⟩
  intro oe pn' hz hv
  obtain ⟨ρ2, hput, hsm⟩ := hsuite y M' ad oe d pn' hR hz hv hd0
  obtain ⟨j, e4, e5⟩ := hput.ix
  have ij : i = j := nodup_at c.nd e1 e4
  subst ij
  rw [← List.append_assoc] at xx
  exact hsm.run F _ B' H' (by rw [e5]; exact r.set (.raw _)) xx _ ⟨fun _ _ _ _ _ p => p.elim, fun d3 M3 v3 B3 H3 p s3 r3 x3 => g.rt d3 M3 v3 B3 H3 p (s.trans s3) r3 x3, fun _ _ _ _ _ p => p.elim, fun _ _ _ _ _ p => p.elim⟩⟩
end
/-! ### in the suite: the error's field, isinstance -/
section
variable {X : Cx} {N : List Str} {sc : Scope} {ρ ρ' : Rho} {M : Mem} {P : D → Mem → Prop} {e a : Expr} {es : List Expr} {pos : Pos} {ad C : Addr} {oe : Obj} {d : Option Addr} {pn : List (Addr × Obj)}
theorem EM.xfld {f : Str} {dd : Addr} (T : XfC X.K C) (hno : PySem.W.findIn X.K (.ref C) f = some none) (hz : Zc (.ref C) (some dd) oe) (hv : ∃ vs, oe.data = .fields vs)
    (h : EM (X.suite ad ((ad, oe) :: pn)) e ρ M fun y M1 => y = .raw (.ref ad) ∧ ∃ (k : Nat) (fs : List (Str × D)) (z : D), M1[k]? = some (dd, .dic (xphi X.K fs)) ∧ fs.lookup f = some z ∧ P z M1)
    (hb : attributeBase e f X.env (eval e X.env) = eval e X.env := by rfl) : EM (X.suite ad ((ad, oe) :: pn)) (.Attribute e f pos) ρ M P := ⟨fun F σ B H hr hx Q q =>
  WE.of (pe_xf T hno hz hv WE.pe hb) (h F σ B H hr hx _ fun y M1 v B1 H1 ⟨e1, k, fs, z, e2, e3, p⟩ s1 x1 r1 => by
    subst e1
    cases r1
    obtain ⟨o, a1, a2, _⟩ := x1.at (at_app e2)
    cases a2 with
    | dic h1 h2 h3 =>
      obtain ⟨vs, e4, rf⟩ := h1
      subst e4
      obtain ⟨v, b1, b2⟩ := rf.look e3
      exact ⟨rfl, rfl, dd, vs, v, rfl, a1, b1, q z M1 v B1 H1 p s1 x1 b2⟩)⟩
/-- what the class at C must say, so that isinstance asks its instances rightly -/
structure IsxC (K : PySem.W.Frag) (C : Addr) : Prop where
  hc : (PySem.W.clsIn K C).isSome = true
  ga : PySem.W.findIn K (.ref C) "__getattribute__" = some (some (.builtin "BaseException.__getattribute__"))
  gg : PySem.W.findIn K (.ref C) "__getattr__" = some none
  sub : PySem.W.subIn K (.ref C) (.type "BaseException") = some true
  at_ : PySem.W.findIn K (.ref C) "__class__" = some (some (.builtin "object.__class__"))
  mo : PySem.W.mroIn K C (.type "object") = some true
def dictAt (K : PySem.W.Frag) (d : Option Addr) (M : Mem) : Prop := ∀ dd, d = some dd → ∃ (k : Nat) (mo : MO), M[k]? = some (dd, mo)
def rIsX (K : PySem.W.Frag) (C ad : Addr) (d : Option Addr) : List V → Hp → VK → Prop := fun xs H Q => ∃ (w : V) (cv : Value) (b : Bool), xs = [.ref ad, w] ∧ (∀ u, RelV w u → u = cv) ∧ PySem.W.kitOne K (.ref C) cv = some b ∧ (∀ dd, d = some dd → ∃ o, H dd = some o) ∧ Q (.bl b) H
theorem call_isX (T : IsxC X.K C) (n_ : PySem.W.specialIn X.K (.builtin "object.__class__") "__get__" = some (some (.builtin "getset_descriptor.__get__"))) (t_ : PySem.W.takesIn X.K (.builtin "object.__class__") = some true) (hz : Zc (.ref C) d oe) (hv : ∃ vs, oe.data = .fields vs) : CallR (X.suite ad ((ad, oe) :: pn)) (.builtin "isinstance") (rIsX X.K C ad d) := by
  intro pins s σ H xs us Q I r h
  obtain ⟨w, cv, b, e1, hw, hk, hd, q⟩ := h
  subst e1
  match us, r with
  | [u1, u2], .cons ru1 (.cons ru2 .nil) =>
    have e2 : u1 = Value.ref ad := ru1
    have e3 := hw u2 ru2
    subst e2 e3
    obtain ⟨hget, _⟩ := I.pin (ad, oe) (List.mem_append_left _ List.mem_cons_self)
    obtain ⟨vs, hv⟩ := hv
    obtain ⟨z1, z2⟩ := hz
    cases d with
    | none => exact PySem.W.kia_one (PySem.W.kitx_exc (ox := oe) (od := none) T.hc T.ga T.gg T.sub T.at_ n_ t_ T.mo) I.kIn ⟨hget, z1, by unfold PySem.W.notCls; rw [hv] <;> rfl, by rw [z2]; trivial⟩ hk (fun z => nomatch z) fun tk => ⟨.bl b, H, I.kept (t' := tk) fun _ _ z => z, rfl, q⟩
    | some dd =>
      obtain ⟨o, ho⟩ := hd dd rfl
      obtain ⟨od, hod⟩ := objOk_get (I.hok dd o ho)
      exact PySem.W.kia_one (PySem.W.kitx_exc (ox := oe) (od := some od) T.hc T.ga T.gg T.sub T.at_ n_ t_ T.mo) I.kIn ⟨hget, z1, by unfold PySem.W.notCls; rw [hv] <;> rfl, by rw [z2]; exact hod⟩ hk (fun z => nomatch z) fun tk => ⟨.bl b, H, I.kept (t' := tk) fun _ _ z => z, rfl, q⟩
theorem EM.isx (c : Ctx0 (X.suite ad ((ad, oe) :: pn)) N sc) {p : Pos} (hm : X.mg "isinstance" = none) (T : IsxC X.K C) (n_ : PySem.W.specialIn X.K (.builtin "object.__class__") "__get__" = some (some (.builtin "getset_descriptor.__get__"))) (t_ : PySem.W.takesIn X.K (.builtin "object.__class__") = some true) (hz : Zc (.ref C) d oe) (hv : ∃ vs, oe.data = .fields vs)
    (h : AM (X.suite ad ((ad, oe) :: pn)) (e :: es) ρ M fun ds M1 => ∃ (w : V) (cv : Value) (b : Bool), ds = [.raw (.ref ad), .raw w] ∧ (∀ u, RelV w u → u = cv) ∧ PySem.W.kitOne X.K (.ref C) cv = some b ∧ dictAt X.K d M1 ∧ P (.bl b) M1)
    (hg : glB sc "isinstance" = true := by decide +kernel)
    (he : starEach (e :: es) X.env = (false, eval e X.env) :: starEach es X.env := by rfl) (hpl : (backTo pos (starEach es X.env)).any (·.1) = false := by rfl) : EM (X.suite ad ((ad, oe) :: pn)) (.Call (.Name "isinstance" p) (e :: es) [] pos) ρ M P := ⟨fun F σ B H hr hx Q q =>
  WE.of (pe_callB (call_isX T n_ t_ hz hv) (c.gl _ hg) hm rfl WA.pa (by decide +kernel) (by decide +kernel) he hpl) (h F σ B H hr hx _ fun ds M1 vs B1 H1 ⟨w, cv, b, e1, hw, hk, hd, p⟩ s1 x1 r1 => by
    subst e1
    match vs, r1 with
    | [_, _], .cons (.raw _) (.cons (.raw _) .nil) =>
      refine ⟨w, cv, b, rfl, hw, hk, fun dd e => ?_, q _ M1 _ B1 H1 p s1 x1 (.bl b)⟩
      obtain ⟨k, mo, e2⟩ := hd dd e
      obtain ⟨o, a1, _⟩ := x1.at (at_app e2)
      exact ⟨o, a1⟩)⟩
end
/-- THE RULE for a def that catches errors -/
theorem ok_defT {P : Program} {w : World} {K : PySem.W.Frag} {mg : Str → Option Value} {base : Heap} {x qual : Str} {st : Stmt} {f : Addr} {fd : FuncData} {N ps : List Str} {k : Nat} {S : DA} (F : Fun K x qual st f fd) (sc : FnScope N ps (defScope st)) (hm : mg x = some (.ref f)) (hb : Binds K fd ps []) (mono : DMono S) (hl : DLen S ps.length)
    (body : ∀ X : Cx, X.prog = P → X.w = w → X.K = K → X.mg = mg → X.base = base → X.stack = X.env :: X.outer → X.env.frame = some X.env.locals → Ctx X N (defScope st) → Room k X.A → ∀ ds M (Q : D → Mem → Prop), S ds M Q → SM X (defBody st) (startD N ds) M { nx := fun _ M' => Q .non M', rt := Q }) : Gd P w K mg base x (k + 1) ps S := by
  refine ⟨⟨f, fd, ?_, hm, F.kp, hb⟩, mono⟩
  refine F.ok sc (fun vs H Q E h => ?_) (fun cdv A outer s H vs Q E hr h => ?_)
  · obtain ⟨F, B, M, ds, r, _, h⟩ := h
    rw [r.length]
    exact hl _ _ _ h
  · obtain ⟨F, B, M, ds, r, x, h⟩ := h
    refine ⟨_, WSs.ps, ?_⟩
    refine body (cxOf CX0 P w K mg base N qual (defScope st) f cdv A outer s H E).nox rfl rfl rfl rfl rfl rfl rfl (Ctx.fn rfl sc.nd rfl rfl sc.kind (fun _ => rfl) PassesOwn.never) hr ds M _ h F (L2.start N vs) B H (start_rep r) x _ ⟨fun ρ M σ B' H' p s _ x => p _ B' H' s x .non, fun d M v B' H' p s r x => p v B' H' s x r, fun _ _ _ _ _ p => p.elim, fun _ _ _ _ _ p => p.elim⟩
end Dl
namespace Dl
open PySem PySem.Spec PyProof.Rows L2
/-! ### list.count of truths -/
def eqB (k : Bool) : Value → Bool
  | .bool b => b == k
  | _ => false
theorem bl_vals : ∀ {bs : List Bool} {us : List Value}, Vals (bs.map V.bl) us → us = bs.map Value.bool
  | [], _, .nil => rfl
  | b :: bs, _, .cons h t => by
    have e : _ = Value.bool b := h
    rw [e, bl_vals t] <;> rfl
theorem count_bl (k : Bool) : ∀ bs : List Bool, (bs.map Value.bool).countP (eqB k) = bs.count k
  | [] => rfl
  | b :: bs => by
    rw [List.map_cons, List.countP_cons, List.count_cons, count_bl k bs] <;> rfl
def rCntB (K : PySem.W.Frag) : V → List V → Hp → VK → Prop := fun x xs H Q => ∃ (p : Addr) (bs : List Bool) (k : Bool), x = .ref p ∧ xs = [.bl k] ∧ SqL K H p (bs.map V.bl) ∧ Q (.int (bs.count k : Nat)) H
theorem mt_bcount {X : Cx} : MtR X "list.count" (rCntB X.K) := by
  intro pins s σ H x xs v us Q I rx rxs h
  obtain ⟨p, bs, k, e1, e2, sq, q⟩ := h
  subst e1 e2
  cases rx
  obtain ⟨u, eu, ru⟩ := rxs.one
  have ek : u = Value.bool k := ru
  subst eu ek
  obtain ⟨its, rv, ⟨⟨cls, dd, data, sl⟩, n, ho, hc, hdn, hd⟩, _⟩ := I.list sq
  dsimp only at hc hd
  subst hc hd
  have ei := bl_vals rv
  refine call_meets PySem.F.slot_list_count ⟨_, ho, rfl⟩ PySem.F.entry_list_count (PySem.F.args_list_count_2 _ _) (SeqAt.list_countAt p its.toArray n dd sl (.bool k) (eqB k)) ⟨ho, ?_, ?_⟩
  · intro y hy
    have hy' : y ∈ its := by simpa using hy
    rw [ei] at hy'
    obtain ⟨b, _, e⟩ := List.mem_map.mp hy'
    subst e
    exact SeqAt.EqAt.bool_bool b k
  · have ec : its.toArray.toList.countP (eqB k) = bs.count k := by
      show its.countP (eqB k) = _
      rw [ei, count_bl]
    refine ⟨.int (bs.count k : Nat), H, I.tok _, ⟨s.toks, ?_⟩, q⟩
    show Value.int ((its.toArray.toList.countP (eqB k) : Nat) : Int) s.toks = _
    rw [ec]
def RCntB : DM := fun d ds M P => ∃ (bs : List Bool) (k : Bool), d = .lst (bs.map D.bl) ∧ ds = [.bl k] ∧ P (.int (bs.count k : Nat)) M
def isLst (d : D) (_ : Mem) : Prop := ∃ l, d = .lst l
theorem reps_bl {K : PySem.W.Frag} {B : Hp} : ∀ {vs : List V} {bs : List Bool}, Reps K B vs (bs.map D.bl) → vs = bs.map V.bl
  | _, [], .nil => rfl
  | _, b :: bs, .cons h t => by
    cases h
    rw [reps_bl t] <;> rfl
theorem dCntB {K : PySem.W.Frag} : DMeth K "list" (rCntB K) isLst RCntB := ⟨fun F B M H x d hx r t => by
  obtain ⟨l, e⟩ := t
  subst e
  cases r with
  | lst h rs => exact .inl ⟨rfl, _, SqL.of (hx.fr _ _ h)⟩, fun F B M H x d vs ds P Q hx r rs hR q => by
  obtain ⟨bs, k, e1, e2, hp⟩ := hR
  subst e1 e2
  cases r with
  | @lst a xs _ h r2 =>
    match vs, rs with
    | [_], .cons (.bl _) .nil =>
      have e := reps_bl r2
      subst e
      exact ⟨a, bs, k, rfl, rfl, SqL.of (hx.fr _ _ h), q _ M _ B H hp (Same.refl B) hx (.int _)⟩⟩
section
variable {X : Cx} {ρ : Rho} {M : Mem} {P : D → Mem → Prop} {e o : Expr} {pos apos : Pos}
theorem EM.countB (h : EM X o ρ M fun d M1 => isLst d M1 ∧ EM X e ρ M1 fun z M2 => RCntB d [z] M2 P)
    (hbase : attributeBase o "count" X.env (eval o X.env) = eval o X.env := by rfl)
    (hfew : ((backTo pos (starEach [e] X.env)).all (fun x => !x.1) && (backToKw pos (keywordEach [] X.env)).all (fun x => x.1.isSome)
      && decide ([e].length + ([] : List Keyword).length + (if ([] : List Keyword).isEmpty then 0 else 1) < 30)) = true := by rfl)
    (hline : (apos.endLine == pos.line) = true := by rfl) (hs : starEach [e] X.env = [(false, eval e X.env)] := by rfl) : EM X (.Call (.Attribute o "count" apos) [e] [] pos) ρ M P :=
  EM.bm PySem.F.plainAttrs_list PySem.F.slot_list_count PySem.F.type_list_count mt_bcount dCntB (h.to fun d M1 ⟨t, h1⟩ => ⟨t, AM.cons (h1.to fun z M2 h2 => AM.nil h2) hs⟩) hbase hfew hline hs
end
end Dl
namespace Dl
open PySem PySem.Spec PyProof.Rows L2
/-! ### an error out of a list comprehension -/
theorem noteFrame_same {e : Value} {a b : PySem.Env} (h : a.frame = b.frame) : noteFrame e a = noteFrame e b := by
  unfold noteFrame PySem.frameOf
  rw [h]
/-- behind the block: its names go, then the list, or the error, goes on -/
def LetGo (M : Model) (A : Around) (E Q : Value → Shared → Prop) (acc : Value) (cenv : PySem.Env) (r : Result) (s' : Shared) : Prop :=
  ∃ m, s'.heap.Ns cenv.locals m ∧ ∀ h', Heap.SameBut cenv.locals s'.heap h' → match r with
    | .ok _ => Q acc { s' with heap := h' }
    | .error x => wpAny M A (passOn "comprehension.variables-let-go" x cenv : Sem Value) (fun _ _ => False) E { s' with heap := h' }
theorem comp_letGoX {M : Model} {A : Around} {E Q : Value → Shared → Prop} {s : Shared} {env : PySem.Env} {e : Expr} {scope : Scope} {pos : Pos} {newAcc first : Sem Value} {g : Comprehension} {gs : List Comprehension} {cl : List (Str × Addr)}
    (c1 : clausesOf e = g :: gs) (c2 : ∀ x, foldedSetIterable g.iter env x = pure x) (c3 : closureFor scope env = pure cl) (c4 : scope.kind = .function) (c5 : ∀ x ∈ scope.names, x.2 = .local → scope.names.lookup x.1 = some .local)
    (go : wpAny M A first (fun x s1 => wpAny M A (pyIter x) (fun it s2 => wpAny M A newAcc (fun acc s3 => wpAny M A (newFunctionEnv scope env.globals cl [] env.qual none .none (some env)) (fun cenv s4 =>
      codeAny M A (.compStart e 0 it acc { cenv with scope := relabel scope env }) (LetGo M A E Q acc { cenv with scope := relabel scope env }) s4) E s3) E s2) E s1) E s) : wpAny M A (comprehension e scope env pos newAcc false first none) Q E s := by
  have keepE : ∀ {α : Type} {t : Sem α} {Q1 Q2 : α → Shared → Prop} {s : Shared}, wpAny M A t Q1 E s → (∀ a s, Q1 a s → Q2 a s) → wpAny M A t Q2 E s := fun h k => wpAny_mono h k fun _ _ y => y
  unfold comprehension
  rw [c3, c1]
  refine wpAny_bind (keepE go fun x s1 g1 => ?_)
  refine wpAny_bind (wpAny_standAt (wpAny_bind (wpAny_of_eq (c2 x) (wpAny_bind (wpAny_holding (keepE g1 fun it s2 g2 => ?_))))))
  refine wpAny_standIf (wpAny_bind (keepE g2 fun acc s3 g3 => ?_))
  refine wpAny_bind (wpAny_pure (wpAny_bind (keepE g3 fun cenv s4 g4 => ?_)))
  dsimp only
  have own : ∀ x ∈ (scope.names.filter fun x => (x.2 == .local || x.2 == .cell) && x.1 != (".0" : Str)).reverse, x.2 = .local → Env.kindOf { cenv with scope := relabel scope env } x.1 = some .local :=
    fun x hx hl => lookup_relabel_local (c5 x (List.mem_filter.mp (List.mem_reverse.mp hx)).1 hl)
  refine wpAny_holding (wpAny_bind (wpAny_attempt (wpAny_holding (wpAny_run (codeAny_mono g4 fun r s5 hr => ?_)))))
  obtain ⟨m, hn, hr⟩ := hr
  cases r with
  | ok f => exact wpAny_bind (wpAny_holding (wpAny_comp_letGo (cenv := { cenv with scope := relabel scope env }) c4 _ s5 m own hn fun h' m' _ sb => wpAny_pure (hr h' sb)))
  | error x => exact wpAny_bind (wpAny_holding (wpAny_comp_letGo (cenv := { cenv with scope := relabel scope env }) c4 _ s5 m own hn fun h' m' _ sb => wpAny_mono (hr h' sb) (fun _ _ f => f.elim) fun _ _ y => y))
/-- the ground without one object -/
theorem ground_less {B : Heap} (C : Addr) : ∃ G : Heap, (∀ b, b ≠ C → G.get? b = B.get? b) ∧ G.get? C = none := by
  obtain ⟨G, g1, g2⟩ := restrict B fun b => decide (b ≠ C)
  exact ⟨G, fun b h => g1 b (decide_eq_true h), g2 C (by simp)⟩
theorem fly_less {B G h : Heap} {l : List PySem.Env} {a C : Addr} {Z : Obj → Prop} (f : HandSPX.FlyingZ B l a Z h) (g1 : ∀ b, b ≠ C → G.get? b = B.get? b) (g2 : G.get? C = none) : HandSPX.FlyingZ G l a Z h := by
  have sub : ∀ b o, G.get? b = some o → B.get? b = some o := fun b o e => by
    by_cases z : b = C
    · rw [z, g2] at e
      cases e
    · rw [← g1 b z]
      exact e
  have no : ∀ b, B.get? b = none → G.get? b = none := fun b e => by
    cases q : G.get? b with
    | none => rfl
    | some o =>
      rw [sub b o q] at e
      cases e
  obtain ⟨k1, k2, k3, oe, vs, T, oT, ts, e1, e2, e3, e4, e5, e6, e7, e8, e9⟩ := f
  refine ⟨fun b o e => k1 b o (sub b o e), no _ k2, funFrames_none k3 fun L hL => ?_, oe, vs, T, oT, ts, e1, e2, e3, e4, no _ e5, e6, e7, e8, e9⟩
  obtain ⟨o, _, n, _⟩ : ∃ o, h.get? L = some o ∧ B.get? L = none ∧ True := by
    have key : ∀ {l : List PySem.Env}, h.FunFrames B l → L ∈ frs l → ∃ o, h.get? L = some o ∧ B.get? L = none ∧ True := by
      intro l
      induction l with
      | nil => intro _ hm; cases hm
      | cons env l ih =>
        intro ⟨_, ⟨L', o, e1, e2, e3, _⟩, r⟩ hm
        unfold frs at hm ih
        rw [List.filterMap_cons, e1] at hm
        rcases List.mem_cons.mp hm with z | z
        · subst z
          exact ⟨o, e3, e2, trivial⟩
        · exact ih r z
    exact key k3 hL
  exact no _ n
theorem held_same {G h h' : Heap} {l : List PySem.Env} {a C L : Addr} {Z : Obj → Prop} {oC : Obj} (f : HandSPX.HeldZ G l a Z L h) (gC : G.get? C = none) (hC : h.get? C = some oC) (dC : ∀ vs, oC.data ≠ .fields vs) (nl : C ∉ frs l) (sb : ∀ b, b ≠ C → h'.get? b = h.get? b) : HandSPX.HeldZ G l a Z L h' := by
  obtain ⟨k1, k2, k3, oe, vs, T, oT, ts, e1, e2, e3, e4, e5, e6, e7, e8, e9⟩ := f
  have nf : ∀ {b : Addr} {o : Obj} {vs : Array Value}, h.get? b = some o → o.data = .fields vs → b ≠ C := fun {b o vs} e d z => by
    rw [z, hC] at e
    cases e
    exact dC _ d
  refine ⟨fun b o e => ?_, k2, ?_, oe, vs, T, oT, ts, (sb _ (nf e1 e3)).trans e1, e2, e3, e4, e5, e6, (sb _ (nf e7 e8)).trans e7, e8, e9⟩
  · rw [sb b fun z => by rw [z, gC] at e; cases e]
    exact k1 b o e
  · have key : ∀ {l : List PySem.Env}, C ∉ frs l → h.FunFrames G l → h'.FunFrames G l := by
      intro l
      induction l with
      | nil => intro _ _; trivial
      | cons env l ih =>
        intro hn ⟨a1, ⟨L', o, b1, b2, b3, b4⟩, r⟩
        have hn' : L' ≠ C ∧ C ∉ frs l := by
          unfold frs at hn ⊢
          rw [List.filterMap_cons, b1] at hn
          exact ⟨fun z => hn (by rw [z]; exact List.mem_cons_self), fun z => hn (List.mem_cons_of_mem _ z)⟩
        exact ⟨a1, ⟨L', o, b1, b2, (sb L' hn'.1).trans b3, b4⟩, ih hn'.2 r⟩
    exact key nl k3
section
variable {X : Cx} {W : WX} {pins : List (Addr × Obj)} {σ : L2.St} {H : Hp} {s : Shared}
/-- a call's error, noted by this frame, one object of ours (at C) let go behind: it is in our air still -/
theorem air_less {C a : Addr} {B : Heap} {H' : Hp} {cls : Value} {d : Option Addr} {s1 : Shared} {h1 h2 h3 : Heap} (I : Inv X pins σ H s) (ok : FpOk X pins H' C) (hC : ∃ o, s.heap.get? C = some o) (nl : C ∉ frs X.stack)
    (hok : HOk X.prog X.w H' B) (ub : UB (frs X.stack) H H' s.heap B s1.heap) (st : B.StaysIn s1.heap) (na : H' a = none) (os : s1.os = s.os) (ag : AllBare s1.gens) (w : W cls d σ H')
    {G : Heap} (g1 : ∀ b, b ≠ C → G.get? b = B.get? b) (up1 : s1.heap.UpToSlots h1) (sb : ∀ b, b ≠ C → h2.get? b = h1.get? b) (up3 : h2.UpToSlots h3) (held : HandSPX.HeldZ G X.stack a (Zc cls d) X.env.locals h3) : XE X W (.ref a) { s1 with heap := h3 } := by
  obtain ⟨F, f1, f2⟩ := restrict s1.heap fun b => ((B.get? b).isSome || decide (b ∈ frs X.stack)) && decide (b ≠ C)
  have inF : ∀ {b : Addr} {o : Obj}, F.get? b = some o → s1.heap.get? b = some o ∧ ((B.get? b).isSome = true ∨ b ∈ frs X.stack) ∧ b ≠ C := fun {b o} e => by
    cases q : (((B.get? b).isSome || decide (b ∈ frs X.stack)) && decide (b ≠ C)) with
    | false => rw [f2 b q] at e; cases e
    | true =>
      rw [f1 b q] at e
      have q2 := Bool.and_eq_true_iff.mp q
      exact ⟨e, by simpa [Bool.or_eq_true] using q2.1, of_decide_eq_true q2.2⟩
  have ofB : ∀ {b : Addr} {o : Obj}, b ≠ C → B.get? b = some o → F.get? b = some o := fun {b o} n e => by
    rw [f1 b (by simp [e, n])]
    exact st b o e
  have ofS : ∀ {b : Addr}, b ≠ C → b ∈ frs X.stack → F.get? b = s1.heap.get? b := fun {b} n hb => f1 b (by simp [hb, n])
  have noC : ∀ {b : Addr}, b ∉ ([C] : List Addr) → b ≠ C := fun {b} h z => h (by rw [z]; exact List.mem_singleton.mpr rfl)
  have tr : ∀ {b : Addr} {u : HO}, H' b = some u → b ≠ C := fun {b u} e z => by
    rw [z, ok.1] at e
    cases e
  have un : Un (frs X.stack) [C] H H' s.heap F := {
    keep := fun b o e n hb hx => ofB (noC hx) (ub.keep b o e n hb)
    slot := fun b o e n hb hx => by
      obtain ⟨sl, q⟩ := ub.slot b o e hb
      exact ⟨sl, by rw [ofS (noC hx) hb]; exact q⟩
    free := fun b o e n hx => ub.free b o e n
    there := fun b o e hx => by
      by_cases hb : b ∈ frs X.stack
      · obtain ⟨sl, q⟩ := ub.slot b o e hb
        exact ⟨_, by rw [ofS (noC hx) hb]; exact q⟩
      · obtain ⟨o', q⟩ := ub.there b o e hb
        exact ⟨o', ofB (noC hx) q⟩
    tups := ub.tups
    frzs := ub.frzs
    tbls := ub.tbls }
  have J : Inv X pins σ H' { s1 with heap := F } := I.call' (ch := [C]) os un (fun b u q => (hok b u q).stay (fun c v hc z => ofB (by
      rcases hc with hc | hc
      · rw [hc]
        exact tr q
      · exact tr hc) z) (fun _ r => r) fun _ _ r => r) ag fun b hb => by
    rw [List.mem_singleton.mp hb]
    exact ⟨ok.2.2.2.1, ok.2.1, ok.2.2.2.2.1, ok.2.2.2.2.2⟩
  refine ⟨a, G, { s1 with heap := F }, pins, σ, H', cls, d, rfl, J, fun b o e hb => ?_, fun b o e hnf => ?_, .inr (.inr held), na, rfl, ag, w⟩
  · obtain ⟨e1, e2, e3⟩ := inF e
    rw [g1 b e3]
    rcases e2 with e2 | e2
    · obtain ⟨o', q⟩ := Option.isSome_iff_exists.mp e2
      have z := st b o' q
      rw [e1] at z
      cases z
      exact q
    · exact absurd e2 hb
  · obtain ⟨e1, _, e3⟩ := inF e
    obtain ⟨sl, q1⟩ := up1 b o e1 hnf
    obtain ⟨sl2, q2⟩ := up3 b _ ((sb b e3).trans q1) hnf
    exact ⟨sl2, q2⟩
end
/-- what leaves the element: a call let it out -/
def elX (X : Cx) (W : WX) (σ : L2.St) (Y : Cx) : Value → Shared → Prop := fun e s' => ∃ pins τ H s, Inv Y pins τ H s ∧ L2.CX X.prog X.w X.stack H s (fun cls d H' => W cls d σ H') e s'
theorem pe_lcX {X : Cx} {W : WX} {elt tg iter : Expr} {scope : Scope} {own : List (Str × Nat)} {pos : Pos} {wi : TI} {g : TG} {te : L2.St → TE} (hst : X.stack = X.env :: X.outer) (hf : X.env.frame = some X.env.locals) (tk : Takes X W) (hc : X.calm = true) (hN : X.N.Nodup) (hi : PI X tg iter wi) (ok : BlkOk X.N X.env.scope scope own)
    (hg : ∀ (s : Shared) (H : Hp) (C : Addr) (cl : List (Str × Addr)) (fp : List Addr), PG (X.blk s H scope (compEnvC scope cl C X.env) fp) tg g)
    (he : ∀ (s : Shared) (H : Hp) (C : Addr) (cl : List (Str × Addr)) (fp : List Addr) (σ : L2.St), PE ((X.blk s H scope (compEnvC scope cl C X.env) fp).wish (elX X W σ (X.blk s H scope (compEnvC scope cl C X.env) fp))) elt (te σ)) (hsf : ∀ x, foldedSetIterable iter X.env x = pure x) :
    PE X (.ListComp elt [⟨tg, iter, [], 0⟩] scope pos) (fun σ H Q => tLc wi g tYes (te σ) (own.map (·.2)) σ H Q) := ⟨fun pins s σ H Q I h => by
  have cells : ∀ y ∈ scope.names, y.2 = .free → ∃ c, X.env.cells.lookup y.1 = some c := fun y hy e => (ok.free y hy e).elim (fun k => I.ok.has _ (.inl k)) fun k => I.ok.has _ (.inr k)
  have hfr : X.A.frames = some (X.env :: X.outer) := by rw [I.ok.frames, hst]
  rw [eval_ListComp]
  refine comp_letGoX rfl hsf (closure_ok cells) ok.kind (fun y hy e => by rw [ok.uniq y hy, e]) (thn (hi.run pins s σ H _ I h) fun xv s1 hx => thn hx fun itv s2 h2 => ?_)
  obtain ⟨it, fp, tn, J, H2, eit, I2, T, at0, fpk, q⟩ := h2
  subst eit
  refine wpAny_newObj_type (newEnv_comp ?_) (by show 0 ≤ sizeLine; decide)
  -- D: the list
  obtain ⟨D, eD⟩ : ∃ D, s2.heap.objs.size = D := ⟨_, rfl⟩
  rw [eD]
  obtain ⟨V, ⟨m0, v0⟩, turn⟩ := q D (I2.hok.fresh (Nat.le_of_eq eD))
  generalize e3 : ({ s2 with heap := s2.heap.push { cls := .type "list", data := .seq ([] : List Value).toArray } } : Shared) = s3
  have heap3 : s3.heap = s2.heap.push { cls := .type "list", data := .seq ([] : List Value).toArray } := by rw [← e3]
  have I3 : Inv X pins σ (L2.upd H2 D (.lst [])) s3 := by
    subst e3
    exact I2.laid (t' := s2.toks) (fun b o e => Heap.get?_push_of_some _ e) (Nat.le_of_eq eD) ⟨Nat.zero_le _, [], 0, .nil, by rw [← eD]; exact Heap.get?_push_size _ rfl⟩
  have fpk3 : ∀ b ∈ fp, FpOk X pins (L2.upd H2 D (.lst [])) b ∧ b < s3.heap.objs.size := fun b hb => by
    obtain ⟨o, e, _⟩ := T.obj _ _ at0 b hb
    have lt := Heap.lt_size e
    exact ⟨⟨by rw [upd_ne (by rw [← eD]; exact Nat.ne_of_lt lt)]; exact (fpk b hb).1, (fpk b hb).2⟩, by rw [heap3, Heap.size_push]; exact Nat.lt_succ_of_lt lt⟩
  have at3 : tn 0 s3.heap := T.keep _ _ _ at0 fun b _ o e => by rw [heap3]; exact Heap.get?_push_of_some _ e
  have I4 := block_start I3 ok hN fpk3
  have pg := hg s3 (L2.upd H2 D (.lst [])) s3.heap.objs.size (cellsFrom (s3.heap.objs.size + 1) scope.names (cloFrom X.env.cells scope.names [])) fp
  have pe := he s3 (L2.upd H2 D (.lst [])) s3.heap.objs.size (cellsFrom (s3.heap.objs.size + 1) scope.names (cloFrom X.env.cells scope.names [])) fp σ
  have nofp : ∀ b ∈ fp, (L2.upd H2 D (.lst [])) b = none := fun b hb => (fpk3 b hb).1.1
  generalize ece : compEnvC scope (cellsFrom (s3.heap.objs.size + 1) scope.names (cloFrom X.env.cells scope.names [])) s3.heap.objs.size X.env = ce at I4 pg pe
  have cL : ce.locals = s3.heap.objs.size := by subst ece; rfl
  have cF : ce.frame = X.env.frame := by subst ece; rfl
  generalize eH : L2.upd H2 D (.lst []) = H3 at I3 I4 pg pe v0 nofp fpk3
  have nst : s3.heap.objs.size ∉ frs X.stack := fun hm => by
    obtain ⟨_, o, e, _⟩ := I3.stack.mem hm
    exact absurd (Heap.lt_size e) (Nat.lt_irrefl _)
  suffices goal : codeAny (model X.prog X.w) X.A (.compStart (.ListComp elt [⟨tg, iter, [], 0⟩] scope pos) 0 (.ref it) (.ref D) ce) (LetGo (model X.prog X.w) X.A X.xe (EP X pins σ Q) (.ref D) ce) { s3 with heap := pushCells (s3.heap.push { cls := .type "dict", data := .dict #[] }) scope.names } by
    subst ece
    exact goal
  generalize e4 : ({ s3 with heap := pushCells (s3.heap.push { cls := .type "dict", data := .dict #[] }) scope.names } : Shared) = s4 at I4 ⊢
  have at4 : tn 0 s4.heap := T.keep _ _ _ at3 fun b _ o e => by rw [← e4]; exact pushCells_keeps _ _ _ _ (Heap.get?_push_of_some _ e)
  have fps : ∀ {τ : L2.St} {G : Hp} {t : Shared}, Inv (X.blk s3 H3 scope ce fp) [] τ G t → (∀ b ∈ fp, G b = none) → ∀ b ∈ fp, FpOk (X.blk s3 H3 scope ce fp) [] G b := fun K hn b hb =>
    ⟨hn b hb, (K.ok.exf b hb).1, K.ok.exfs b hb, .inl hb, fun x c e => (K.ok.exf b hb).2 x c e, fun p hp => absurd (show p ∈ ([] : List (Addr × Obj)) ++ [] from hp) (by simp)⟩
  -- back where the def stands
  have back : ∀ {pins' : List (Addr × Obj)} {τ : L2.St} {G : Hp} {t : Shared}, Inv (X.blk s3 H3 scope ce fp) pins' τ G t → Inv X pins σ G t := fun K => I3.call' (ch := fp) K.os K.base K.hok K.bare fun b hb => ⟨(fpk3 b hb).1.2.2.2.1, (fpk3 b hb).1.2.1, (fpk3 b hb).1.2.2.2.2.1, (fpk3 b hb).1.2.2.2.2.2⟩
  have freeC : ∀ {pins' : List (Addr × Obj)} {τ : L2.St} {G : Hp} {t : Shared}, Inv (X.blk s3 H3 scope ce fp) pins' τ G t → G s3.heap.objs.size = none ∧ ∃ m, t.heap.Ns s3.heap.objs.size m := fun {pins' τ G t} K => by
    have z : G ce.locals = none := K.free
    obtain ⟨m, hn, _⟩ := K.loc
    have hn : t.heap.Ns ce.locals m := hn
    rw [cL] at z hn
    exact ⟨z, m, hn⟩
  have loop : codeAny (model X.prog X.w) X.A (.compLoop (.ListComp elt [⟨tg, iter, [], 0⟩] scope pos) 0 (.ref it) (.ref D) ce) (LetGo (model X.prog X.w) X.A X.xe (EP X pins σ Q) (.ref D) ce) s4 := by
    refine compLoop_any (fun n t => ∃ i G, Inv (X.blk s3 H3 scope ce fp) [] (wipe σ (own.map (·.2))) G t ∧ tn i t.heap ∧ (∀ b ∈ fp, G b = none) ∧ V i n G) ?_ m0 ⟨0, H3, I4, at4, nofp, v0⟩
    rintro n s5 ⟨i, H5, I5, at5, no5, v5⟩
    rcases turn i n H5 v5 with ⟨stop, fin⟩ | ⟨go, Nx, nextV, step⟩
    · refine thnF (T.done (X.blk s3 H3 scope ce fp) rfl rfl rfl hc i [] s5 _ H5 (fun _ _ => False) I5 (fps I5 no5) at5 stop) fun r s6 ⟨er, I6⟩ => ?_
      subst er
      obtain ⟨nC, m, hn⟩ := freeC I6
      have f := I3.fpOk (Nat.le_refl _) nC
      exact ⟨m, by rw [cL]; exact hn, fun h' sb => ⟨.ref D, H5, (back I6).turned (t' := s6.toks) (fun b o hb e => (sb.2 b (by rw [cL]; exact hb)).trans e) f.1 f.2.1 f.2.2.2.1 f.2.2.2.2.1 f.2.2.2.2.2, rfl, fin⟩⟩
    · refine thnF (T.item (X.blk s3 H3 scope ce fp) rfl rfl rfl hc i [] s5 _ H5 (fun _ _ => False) I5 (fps I5 no5) at5 go) fun r s6 ⟨u, er, g6⟩ => ?_
      subst er
      refine thnF g6 fun _ s7 ⟨x, H7, I7, r7, y7, at7, no7⟩ => ?_
      have K7 := I7.pinned (fps I7 no7) (T.obj _ _ at7)
      refine thnF (pg.run _ s7 _ H7 x u _ K7 r7 (step x H7 y7)) fun _ s8 ⟨σ8, H8, I8, same8, q8⟩ => ?_
      refine thnF ((pts_nil (X := X.blk s3 H3 scope ce fp)).run _ s8 σ8 H8 _ I8 q8) fun b s9 ⟨H9, I9, q9⟩ => ?_
      have turned : ∀ {t : Shared} {G : Hp}, Inv (X.blk s3 H3 scope ce fp) ([] ++ pinsAt fp s7.heap) σ8 G t → Nx G → ∃ m, m < n ∧ ∃ i G, Inv (X.blk s3 H3 scope ce fp) [] (wipe σ (own.map (·.2))) G t ∧ tn i t.heap ∧ (∀ b ∈ fp, G b = none) ∧ V i m G := fun {t G} K nx => by
        obtain ⟨m', lt', v'⟩ := nextV G nx
        have pinned : ∀ b ∈ fp, ∀ o, s7.heap.get? b = some o → t.heap.get? b = some o ∧ G b = none := fun b hb o e => by
          have z := K.pin (b, o) (List.mem_append_right _ (List.mem_append_right _ (mem_pinsAt hb e)))
          exact ⟨z.1, z.2.1⟩
        refine ⟨m', lt', i + 1, G, (K.unpinned (pins := [])).weak (by rw [← same8, wipe_length]) (fun j v e => ?_), T.keep _ _ _ at7 fun b hb o e => (pinned b hb o e).1, fun b hb => ?_, v'⟩
        · rw [← same8] at e
          exact (wipe_some e).1
        · obtain ⟨o, e, _⟩ := T.obj _ _ at7 b hb
          exact (pinned b hb o e).2
      cases b with
      | false =>
        simp only [Bool.false_eq_true, if_false] at q9 ⊢
        exact turned I9 q9
      | true =>
        simp only [if_true] at q9 ⊢
        refine wpAny_mono (pe.run _ s9 σ8 H9 _ (I9.wish _) q9) (fun z s10 ⟨yv, H10, I10, r10, acc, hD, hz, nx⟩ => app_ok (X := X.blk s3 H3 scope ce fp) I10.unwish hD hz r10 fun s11 I11 => turned I11 nx) fun e t ⟨pins', τ, Hc, sc, J9, cx⟩ => ?_
        show wpAny _ _ (noteFrame e ce) _ _ t
        rw [noteFrame_same cF]
        obtain ⟨a, B, G, cls, d, ea, fl, hok, ub, na, os, ag, w⟩ := cx
        subst ea
        obtain ⟨nC, m, hn⟩ := freeC J9
        obtain ⟨Gd, g1, g2⟩ := ground_less (B := B) s3.heap.objs.size
        have fl1 := fly_less fl g1 g2
        rw [hst] at fl1
        refine HandSPX.looks_onZ Zc.steady hfr hf fl1 fun h1 hd1 up1 => ?_
        obtain ⟨oC, es, ep, eC, dC, rC⟩ := hn
        have nf : ∀ vs, oC.data ≠ .fields vs := fun vs z => by rw [dC] at z; cases z
        obtain ⟨sl, e2⟩ := up1 _ _ (fl.1 _ _ (ub.keep _ _ eC nC nst)) nf
        refine ⟨m, by rw [cL]; exact ⟨_, es, ep, e2, dC, rC⟩, fun h2 sb => ?_⟩
        have sb' : ∀ b, b ≠ s3.heap.objs.size → h2.get? b = h1.get? b := fun b hb => sb.2 b (by rw [cL]; exact hb)
        have hd2 := held_same hd1 g2 e2 nf (by rw [← hst]; exact nst) sb'
        obtain ⟨_, _, _, oe, vs, T0, oT, ts, k1, k2, k3, k4, _⟩ := id hd2
        show wpAny _ _ (passOn "comprehension.variables-let-go" (.ref a) ce : Sem Value) _ _ _
        unfold PySem.passOn
        refine wpAny_bind (wpAny_field k1 k3 k4 ?_)
        rw [if_neg (show ¬ ((Value.ref T0 == Value.none) = true) from by simp)]
        have thrown : wpAny (model X.prog X.w) X.A (setFlight (.ref a) ce.frame) (fun _ s4 => wpAny (model X.prog X.w) X.A (throw (.ref a) : Sem Value) (fun _ _ => False) X.xe s4) X.xe { t with heap := h2 } := by
          rw [cF, hf]
          refine HandSPX.setFlight_onZ hd2 fun h3 hd3 up3 => wpAny_throw (tk _ _ ?_)
          exact air_less (s1 := t) (back J9) (I3.fpOk (Nat.le_refl _) (ub.free _ _ eC nC)) ⟨_, eC⟩ nst hok ub fl.1 na os ag w g1 up1 sb' up3 (by rw [hst]; exact hd3)
        first
          | exact wpAny_bind (wpAny_pure (wpAny_bind thrown))
          | exact wpAny_bind thrown
  exact codeAny_compStart_list loop (T.self X.A 0 _ _ _ at4 loop)⟩
end Dl
namespace Dl
open PySem PySem.Spec PyProof.Rows L2
/-! ### [f(..) for x in ..], f a def that may raise -/
section
variable {X : Cx} {N : List Str} {sc scope : Scope} {ρ ρw : Rho} {M : Mem} {R : XR} {P : D → Mem → Prop} {e iter : Expr} {es : List Expr} {pos lpos px p : Pos} {α : Type}
theorem EMx.lcCall {x fn : Str} {k j : Nat} {ps : List Str} {S : DAx} (c : Ctx X N sc) (hst : X.stack = X.env :: X.outer) (hfr : X.env.frame = some X.env.locals) (hr : Room j X.A) (G : Gx X.prog X.w X.K X.mg X.base fn k ps S) (hw : Wp N ρ [x] ρw)
    (h : IW X (.Name x px) iter ρ M fun l M1 => ∃ (as : List α) (g h : α → D) (ok : α → Prop), l = as.map g ∧ as.length ≤ 10000000 ∧
      (∀ a ∈ as, ∃ ρ', Put N ρw x (some (g a)) ρ' ∧ ∀ s H0 C cl fp E, AM ((Bk X scope s H0 C cl fp).wish E) (e :: es) ρ' M1 fun ds M2 => M2 = M1 ∧ S ds [] (fun d M' => M' = [] ∧ d = h a ∧ ok a) (fun y M' => M' = [] ∧ R y ρ M1)) ∧
      ((∀ a ∈ as, ok a) → ∀ q, P (.raw (.ref q)) ((q, .lst (as.map h)) :: M1)))
    (hk : k ≤ j := by decide) (hck : chk N sc scope [x] = true := by decide +kernel) (hlx : locB scope x = true := by decide +kernel) (hkd : scope.kind = .function := by rfl) (hg : glB scope fn = true := by decide +kernel) (hdb : (fn == ("__debug__" : Str)) = false := by decide +kernel)
    (hs : ∀ x, foldedSetIterable iter X.env x = pure x := by intro _; rfl)
    (he : ∀ env, starEach (e :: es) env = (false, eval e env) :: starEach es env := by intro _; rfl) (hpl : ∀ env, (backTo pos (starEach es env)).any (·.1) = false := by intro _; rfl) :
    EMx X (.ListComp (.Call (.Name fn p) (e :: es) [] pos) [⟨.Name x px, iter, [], 0⟩] scope lpos) ρ M R P := ⟨fun W tk F σ B H hρ hx l Q q => by
  obtain ⟨wi, hp, hi⟩ := h
  obtain ⟨f, fd, gf, hm, hkp, hb⟩ := G.ex
  refine WE.of (pe_lcX (g := BG X scope (.Name x px)) (te := fun σ0 σ H Q => ∀ s H0 C cl fp, WE ((Bk X scope s H0 C cl fp).wish (elX X W σ0 (Bk X scope s H0 C cl fp))) (.Call (.Name fn p) (e :: es) [] pos) σ H Q) hst hfr tk c.calm (by rw [c.nm]; exact c.nd) hp (chk_ok c hck)
    (fun s H0 C cl fp => ⟨fun pins s' σ H' v u Q I r h => h s H0 C cl fp pins s' u I r⟩) (fun s H0 C cl fp σ0 => ⟨fun pins s' σ H' Q I h => h s H0 C cl fp pins s' I⟩) hs) ?_
  refine hi F σ B H hρ hx _ fun l0 J M1 B1 H1 ⟨as, g, h, ok, el, hlen, each, fin⟩ s1 x1 Y => ?_
  subst el
  intro D hD
  refine ⟨fun i m H' => m = as.length - i ∧ i ≤ as.length ∧ (∀ a ∈ as.take i, ok a) ∧ ∃ B', Same B1 B' ∧ Holds X.K B' ((D, .lst ((as.take i).map h)) :: (M1 ++ F)) H', ⟨as.length, by simp, Nat.zero_le _, by simp, B1, Same.refl _, x1.alloc hD (.lst .nil)⟩, ?_⟩
  rintro i m H' ⟨rfl, hi', hok, B', s2, x2⟩
  have sH : Same B1 H' := s2.trans x2.fr
  by_cases hlt : i < as.length
  · have hlt' : i < (as.map g).length := by rw [List.length_map]; exact hlt
    refine .inr ⟨Y.go i H' sH hlt', fun H' => i + 1 ≤ as.length ∧ (∀ a ∈ as.take (i + 1), ok a) ∧ ∃ B', Same B1 B' ∧ Holds X.K B' ((D, .lst ((as.take (i + 1)).map h)) :: (M1 ++ F)) H', fun H'' hh => ⟨as.length - (i + 1), by omega, rfl, hh⟩, fun y H'' hy => ?_⟩
    obtain ⟨eH, d, hd, rd⟩ := Y.yld i H' y H'' sH hlt' hy
    subst eH
    have ed : d = g as[i] := by
      rw [List.getElem?_map, List.getElem?_eq_getElem hlt] at hd
      exact (Option.some.inj hd).symm
    subst ed
    obtain ⟨ρ', hput, ham⟩ := each as[i] (List.getElem_mem hlt)
    have sB : Same B B' := s1.trans s2
    have rw1 : EnvRep X.K B' (wipe σ ((ownOf N [x]).map (·.2))) ρw := wp_rep c.nd (hρ.mono sB) hw
    intro sb H0 C cl fp
    refine (GM.name (c.blk hkd) hput hlx).run _ B' _ _ y rw1 x2 (rd.mono s2) _ fun σ2 r2 o2 => ⟨only_wipe c.nd o2 fun z hz => hz, ?_⟩
    unfold tYes
    dsimp only
    rw [if_pos rfl]
    intro sb H0 C cl fp
    have x2' : Holds X.K B' (M1 ++ ((D, .lst ((as.take i).map h)) :: F)) H'' := x2.perm List.perm_middle
    refine WE.of (pe_callS (E := fun _ cls d H' => W cls d σ H') gf (hr.mono hk) ((c.blk (s := sb) (H := H0) (fp := fp) hkd).gl fn hg) hm hkp hb (fun τ pins H s e s' I cx => ⟨pins, τ, H, s, I.unwish, cx⟩) WA.pa hdb (he _) (hpl _))
      ((ham sb H0 C cl fp _).run _ σ2 B' H'' r2 x2' _ fun ds M2 vs B2 H2 ⟨e2, hS⟩ s3 x3 r3 => ?_)
    subst e2
    refine ⟨M2 ++ ((D, .lst ((as.take i).map h)) :: F), B2, [], ds, r3, x3, G.mono ds [] _ _ _ _ (fun d M' ⟨e3, e4, oka⟩ v B3 H3 s4 x4 r4 => ?_) (fun er M' ⟨e3, hR⟩ cls dd B3 H3 s4 x4 r4 => ?_) hS⟩
    · subst e3 e4
      have x5 : Holds X.K B3 ((D, .lst ((as.take i).map h)) :: (M2 ++ F)) H3 := x4.perm List.perm_middle.symm
      obtain ⟨ob, a1, a2, a3⟩ := x5.at (k := 0) rfl
      cases a2 with
      | @lst accV _ ra =>
        have hal : accV.length ≤ i := by rw [ra.length, List.length_map, List.length_take]; omega
        have et : as.take (i + 1) = as.take i ++ [as[i]] := by rw [List.take_succ, List.getElem?_eq_getElem hlt] <;> rfl
        refine ⟨accV, a1, by have : (10000001 : Nat) ≤ sizeLine := by decide
                             omega, hlt, fun b hb => ?_, B3, s2.trans (s3.trans s4), ?_⟩
        · rw [et] at hb
          rcases List.mem_append.mp hb with hb | hb
          · exact hok b hb
          · rw [List.mem_singleton.mp hb]
            exact oka
        · rw [et, List.map_append]
          exact x5.put (k := 0) rfl (.lst (ra.append (.cons r4 .nil)))
    · subst e3
      refine l er ρ M2 cls dd σ B3 H3 hR (sB.trans (s3.trans s4)) (hρ.mono (sB.trans (s3.trans s4))) (x4.sub ?_) r4
      refine List.Sublist.append (List.Sublist.refl _) ?_
      show (M2 ++ F).Sublist (M2 ++ ((D, _) :: F))
      exact List.Sublist.append (List.Sublist.refl _) (List.sublist_cons_self _ _)
  · have e : i = as.length := by omega
    subst e
    rw [List.take_length] at hok x2
    have st := Y.stop H' sH
    rw [List.length_map] at st
    exact .inl ⟨st, q _ _ _ B' H' (fin hok D) (s1.trans s2) x2 (.raw _)⟩⟩
end
/-! ### built-ins over an argument that may raise -/
section
variable {X : Cx} {N : List Str} {sc scope : Scope} {ρ : Rho} {M : Mem} {R : XR} {P : D → Mem → Prop} {e : Expr} {es : List Expr} {pos p : Pos}
theorem EMx.callB {x : Str} {id : String} {r : List V → Hp → VK → Prop} {Rr : DA} (c : Ctx X N sc) (hc : CallR X (.builtin id) r) (hd : DCall X.K r Rr) (hm : X.mg x = none) (hv : bootBuiltins x = some (.builtin id)) (h : AMx X (e :: es) ρ M R fun ds M1 => Rr ds M1 P)
    (hg : glB sc x = true := by decide +kernel) (hn : x ≠ "__name__" := by decide +kernel) (hdb : (x == ("__debug__" : Str)) = false := by decide +kernel)
    (he : starEach (e :: es) X.env = (false, eval e X.env) :: starEach es X.env := by rfl) (hpl : (backTo pos (starEach es X.env)).any (·.1) = false := by rfl) : EMx X (.Call (.Name x p) (e :: es) [] pos) ρ M R P := ⟨fun W tk F σ B H hr hx l Q q =>
  WE.of (pe_callB hc (c.gl x hg) hm hv WA.pa hn hdb he hpl) (h.run W tk F σ B H hr hx l _ fun ds M1 vs B1 H1 h1 s1 x1 r1 => hd F B1 M1 H1 vs ds P Q x1 r1 h1 fun z M' v B' H' pz s2 x2 r2 => q z M' v B' H' pz (s1.trans s2) x2 r2)⟩
theorem EMx.callT {x : Str} {T : String} {r : List V → Hp → VK → Prop} {Rr : DA} (c : Ctx X N sc) (hc : CallR X (.type T) r) (hd : DCall X.K r Rr) (hm : X.mg x = none) (hv : bootBuiltins x = some (.type T)) (h : AMx X (e :: es) ρ M R fun ds M1 => Rr ds M1 P)
    (hg : glB sc x = true := by decide +kernel) (hn : x ≠ "__name__" := by decide +kernel) (hdb : (x == ("__debug__" : Str)) = false := by decide +kernel)
    (he : starEach (e :: es) X.env = (false, eval e X.env) :: starEach es X.env := by rfl) (hpl : (backTo pos (starEach es X.env)).any (·.1) = false := by rfl) : EMx X (.Call (.Name x p) (e :: es) [] pos) ρ M R P := ⟨fun W tk F σ B H hr hx l Q q =>
  WE.of (pe_callTy hc (c.gl x hg) hm hv WA.pa hn hdb he hpl) (h.run W tk F σ B H hr hx l _ fun ds M1 vs B1 H1 h1 s1 x1 r1 => hd F B1 M1 H1 vs ds P Q x1 r1 h1 fun z M' v B' H' pz s2 x2 r2 => q z M' v B' H' pz (s1.trans s2) x2 r2)⟩
/-- a list that may change is from now on plain data -/
theorem EMx.fz (h : EMx X e ρ M R (Fz P)) : EMx X e ρ M R P := ⟨fun W tk F σ B H hr hx l Q q => h.run W tk F σ B H hr hx l Q fun d M' v B' H' ⟨p, k, ds, e1, e2, h1⟩ s x r => by
  subst e1
  cases r
  obtain ⟨xs, a1, a2, a3, a4⟩ := x.freeze (at_app e2)
  rw [erase_app e2] at a4
  exact q _ _ _ _ _ h1 (s.trans (Same.upd a2)) a4 a3⟩
end
/-- THE RULE for a def that may raise, its frame told -/
theorem ok_defXT {P : Program} {w : World} {K : PySem.W.Frag} {mg : Str → Option Value} {base : Heap} {x qual : Str} {st : Stmt} {f : Addr} {fd : FuncData} {N ps : List Str} {k : Nat} {S : DAx} (F : Fun K x qual st f fd) (sc : FnScope N ps (defScope st)) (hm : mg x = some (.ref f)) (hb : Binds K fd ps []) (mono : DMonoX S) (hl : DLenX S ps.length)
    (body : ∀ X : Cx, X.prog = P → X.w = w → X.K = K → X.mg = mg → X.base = base → X.stack = X.env :: X.outer → X.env.frame = some X.env.locals → Ctx X N (defScope st) → Room k X.A → ∀ ds M (Q : D → Mem → Prop) (R : Er → Mem → Prop), S ds M Q R → SMx X (defBody st) (startD N ds) M (fun x _ M' => R x M') { nx := fun _ M' => Q .non M', rt := Q }) : Gx P w K mg base x (k + 1) ps S := by
  refine ⟨⟨f, fd, ?_, hm, F.kp, hb⟩, mono⟩
  refine F.okX sc (fun vs H Q E h => ?_) (fun cdv A outer s H vs Q E hr h => ?_)
  · obtain ⟨F, B, M, ds, r, _, h⟩ := h
    rw [r.length]
    exact hl _ _ _ _ h
  · obtain ⟨F, B, M, ds, r, x, h⟩ := h
    refine ⟨_, WSs.ps, ?_⟩
    refine (body (cxOf (L2.CX P w) P w K mg base N qual (defScope st) f cdv A outer s H E) rfl rfl rfl rfl rfl rfl rfl (Ctx.fn rfl sc.nd rfl rfl sc.kind (fun _ => rfl) (passes_of rfl)) hr ds M _ _ h).run (fun cls d _ H => E cls d H) (takes_of rfl rfl rfl rfl) F (L2.start N vs) B H (start_rep r) x
      (fun x ρ M cls d σ B' H' p s _ y r => p cls d B' H' s y r) _ ⟨fun ρ M σ B' H' p s _ x => p _ B' H' s x .non, fun d M v B' H' p s r x => p v B' H' s x r, fun _ _ _ _ _ p => p.elim, fun _ _ _ _ _ p => p.elim⟩
theorem S1x.join {X : Cx} {st : Stmt} {ρ : Rho} {M : Mem} {R : XR} {O : Out} (J : Rho → Mem → Prop) (h : S1x X st ρ M R { O with nx := J }) (k : ∀ ρ M, J ρ M → O.nx ρ M) : S1x X st ρ M R O := ⟨fun W tk F σ B H hr hx l Dn g =>
  h.run W tk F σ B H hr hx l Dn ⟨fun _ _ _ _ _ p => g.nx _ _ _ _ _ (k _ _ p), fun _ _ _ _ _ p => g.rt _ _ _ _ _ p, fun _ _ _ _ _ p => g.bk _ _ _ _ _ p, fun _ _ _ _ _ p => g.ct _ _ _ _ _ p⟩⟩
theorem Ctx0.wish {X : Cx} {N : List Str} {sc : Scope} (c : Ctx0 X N sc) (E : Value → Shared → Prop) : Ctx0 (X.wish E) N sc := ⟨c.nm, c.nd, c.vis, fun x h => c.gl x h, c.sto⟩
section
variable {X : Cx} {ρ : Rho} {M : Mem} {R : XR} {P : D → Mem → Prop} {e : Expr} {es : List Expr} {pos : Pos}
/-- the first argument lets nothing out -/
theorem AMx.skip {P : List D → Mem → Prop} (h : EM X e ρ M fun d M1 => AMx X es ρ M1 R fun ds M2 => P (d :: ds) M2) (hs : starEach (e :: es) X.env = (false, eval e X.env) :: starEach es X.env := by rfl) : AMx X (e :: es) ρ M R P := ⟨fun W tk F σ B H hr hx l Q q =>
  WA.of (pa_cons WE.pe WA.pa hs) (h F σ B H hr hx _ fun d M1 v B1 H1 h1 s1 x1 r1 => h1.run W tk F σ B1 H1 (hr.mono s1) x1 (l.mono s1) _ fun ds M2 vs B2 H2 h2 s2 x2 r2 => q _ M2 _ B2 H2 h2 (s1.trans s2) x2 (.cons (r1.mono s2) r2))⟩
theorem EMx.tup {x1 : _} (h : AMx X es ρ M R fun ds M1 => ds.length ≤ sizeLine ∧ P (.tup ds) M1) : EMx X (.Tuple es x1 pos) ρ M R P := ⟨fun W tk F σ B H hr hx l Q q =>
  WE.of (pe_tup WA.pa) (h.run W tk F σ B H hr hx l _ fun ds M1 vs B1 H1 ⟨hl, h1⟩ s1 x1 r1 => ⟨by rw [r1.length]; exact hl, fun p hp => by
    have s2 : Same B1 (L2.upd B1 p (.tup vs)) := Same.upd (x1.free hp)
    exact q _ M1 _ _ _ h1 (s1.trans s2) (x1.new hp) (.tup (.inl upd_same) (r1.mono s2))⟩)⟩
end
end Dl
namespace Dl
open PySem PySem.Spec PyProof.Rows L2
/-! ### x in l, l a tuple or a list of data of any depth -/
def rInDT (K : PySem.W.Frag) : R2 := fun x y H Q => ∃ d ds, Dp K H x d ∧ Dp K H y (.tuple ds) ∧ SeqAt.shaped d = true ∧ SeqAt.shaped (.tuple ds) = true ∧ Q (.bl (ds.any fun z => PyData.eqv z d)) H
theorem op_inDT {X : Cx} (hu : X.A.units + 65 < cLine) : OpR X (compareOp .In) (rInDT X.K) := by
  intro pins s σ H x y v u Q I rx ry h
  obtain ⟨d, ds, hd, he, sd, se, q⟩ := h
  obtain ⟨as, r1⟩ := Dp.reads I d x v hd rx
  obtain ⟨bs, r2⟩ := Dp.reads I (.tuple ds) y u he ry
  exact SeqAt.in_tuple_reads r2 r1 (SeqAt.canLay_of_shaped se) (SeqAt.canLay_of_shaped sd) (room_in_shaped sd hu) ⟨.bl _, H, I, rfl, q⟩
def rInDA (K : PySem.W.Frag) : R2 := fun x y H Q => rInD K x y H Q ∨ rInDT K x y H Q
theorem op_inDA {X : Cx} (hu : X.A.units + 65 < cLine) : OpR X (compareOp .In) (rInDA X.K) := (op_inD hu).or (op_inDT hu)
def RInDA : DR := fun d e M P => ∃ l : List D, (e = .tup l ∨ e = .lst l) ∧ d.ok = true ∧ e.ok = true ∧ P (.bl (l.any fun z => z.eqv d)) M
theorem any_pds (d : D) : ∀ l : List D, ((pds l).any fun z => PyData.eqv z d.pd) = l.any fun z => z.eqv d
  | [] => rfl
  | z :: l => by
    show (PyData.eqv z.pd d.pd || (pds l).any _) = _
    rw [any_pds d l] <;> rfl
theorem dInDA {K : PySem.W.Frag} : DOp K (rInDA K) RInDA := by
  intro F B M H x y d e P Q hx r1 r2 ⟨l, he, o1, o2, hp⟩ q
  unfold D.ok at o1 o2
  obtain ⟨a1, a2⟩ := Bool.and_eq_true_iff.mp o1
  obtain ⟨b1, b2⟩ := Bool.and_eq_true_iff.mp o2
  have d1 := (r1.mono hx.fr).dp a1
  have d2 := (r2.mono hx.fr).dp b1
  have fin := q _ M _ B H hp (Same.refl B) hx (.bl _)
  rw [← any_pds] at fin
  rcases he with rfl | rfl
  · exact .inr ⟨_, pds l, d1, by rw [D.pd] at d2; exact d2, a2, by rw [D.pd] at b2; exact b2, fin⟩
  · exact .inl ⟨_, pds l, d1, by rw [D.pd] at d2; exact d2, a2, by rw [D.pd] at b2; exact b2, fin⟩
/-! ### l.index(x), items of any depth -/
def RIndexD : DM := fun d ds M P => ∃ (l : List D) (z w : D) (j : Nat), d = .lst l ∧ ds = [z] ∧ (D.lst l).ok = true ∧ z.ok = true ∧ l[j]? = some w ∧ w.eqv z = true ∧ (∀ (m : Nat) (w' : D), m < j → l[m]? = some w' → w'.eqv z = false) ∧ P (.int (j : Nat)) M
theorem pds_get : ∀ (l : List D) (i : Nat), (pds l)[i]? = (l[i]?).map D.pd
  | [], i => by simp [pds]
  | d :: l, 0 => by simp [pds]
  | d :: l, i + 1 => by
    show (pds l)[i]? = _
    rw [pds_get l i] <;> simp
theorem dIndexD {K : PySem.W.Frag} : DMeth K "list" (rIndexD K) isLst RIndexD := ⟨fun F B M H x d hx r t => by
  obtain ⟨l, e⟩ := t
  subst e
  cases r with
  | lst h rs => exact .inl ⟨rfl, _, SqL.of (hx.fr _ _ h)⟩, fun F B M H x d vs ds P Q hx r rs hR q => by
  obtain ⟨l, z, w, j, e1, e2, o1, o2, hj, hz, hno, hp⟩ := hR
  subst e1 e2
  unfold D.ok at o1 o2
  obtain ⟨a1, a2⟩ := Bool.and_eq_true_iff.mp o1
  obtain ⟨b1, b2⟩ := Bool.and_eq_true_iff.mp o2
  match vs, rs with
  | [v], .cons rv .nil =>
    have d1 := (r.mono hx.fr).dp a1
    have d2 := (rv.mono hx.fr).dp b1
    rw [D.pd] at d1 a2
    cases r with
    | @lst a xs _ h r2 =>
      refine ⟨a, v, z.pd, pds l, j, w.pd, rfl, rfl, d1, d2, a2, b2, by rw [pds_get, hj] <;> rfl, hz, fun m z' hm hz' => ?_, q _ M _ B H hp (Same.refl B) hx (.int _)⟩
      rw [pds_get] at hz'
      cases hl : l[m]? with
      | none => rw [hl] at hz'; cases hz'
      | some w' =>
        rw [hl] at hz'
        have e : w'.pd = z' := Option.some.inj hz'
        rw [← e]
        exact hno m w' hm hl⟩
section
variable {X : Cx} {ρ : Rho} {M : Mem} {P : D → Mem → Prop} {e o : Expr} {pos apos : Pos}
theorem EM.indexD (hu : X.A.units + 65 < cLine) (h : EM X o ρ M fun d M1 => isLst d M1 ∧ EM X e ρ M1 fun z M2 => RIndexD d [z] M2 P)
    (hbase : attributeBase o "index" X.env (eval o X.env) = eval o X.env := by rfl)
    (hfew : ((backTo pos (starEach [e] X.env)).all (fun x => !x.1) && (backToKw pos (keywordEach [] X.env)).all (fun x => x.1.isSome)
      && decide ([e].length + ([] : List Keyword).length + (if ([] : List Keyword).isEmpty then 0 else 1) < 30)) = true := by rfl)
    (hline : (apos.endLine == pos.line) = true := by rfl) (hs : starEach [e] X.env = [(false, eval e X.env)] := by rfl) : EM X (.Call (.Attribute o "index" apos) [e] [] pos) ρ M P :=
  EM.bm PySem.F.plainAttrs_list PySem.F.slot_list_index PySem.F.type_list_index (mt_indexD hu) dIndexD (h.to fun d M1 ⟨t, h1⟩ => ⟨t, AM.cons (h1.to fun z M2 h2 => AM.nil h2) hs⟩) hbase hfew hline hs
end
end Dl
namespace Dl
open PySem PySem.Spec PyProof.Rows L2
/-! ### the greatest of a tuple of whole numbers, also with default= -/
open PySem.W (maxOf)
theorem maxOf_is : ∀ (xs : List Int) (x : Int), maxOf x xs ∈ x :: xs ∧ ∀ y ∈ x :: xs, y ≤ maxOf x xs
  | [], x => ⟨List.mem_cons_self, fun y hy => by rw [List.mem_singleton.mp hy]; exact Int.le_refl _⟩
  | a :: xs, x => by
    have e : maxOf x (a :: xs) = maxOf (if decide (x < a) = true then a else x) xs := rfl
    rw [e]
    by_cases h : x < a
    · rw [if_pos (decide_eq_true h)]
      obtain ⟨h1, h2⟩ := maxOf_is xs a
      refine ⟨List.mem_cons_of_mem _ h1, fun y hy => ?_⟩
      rcases List.mem_cons.mp hy with rfl | hy
      · exact Int.le_trans (Int.le_of_lt h) (h2 a List.mem_cons_self)
      · exact h2 y hy
    · rw [if_neg (by simpa using h)]
      obtain ⟨h1, h2⟩ := maxOf_is xs x
      refine ⟨?_, fun y hy => ?_⟩
      · rcases List.mem_cons.mp h1 with e | h1
        · rw [e]; exact List.mem_cons_self
        · exact List.mem_cons_of_mem _ (List.mem_cons_of_mem _ h1)
      · rcases List.mem_cons.mp hy with rfl | hy
        · exact h2 _ List.mem_cons_self
        · rcases List.mem_cons.mp hy with rfl | hy
          · exact Int.le_trans (by omega) (h2 x List.mem_cons_self)
          · exact h2 y (List.mem_cons_of_mem _ hy)
theorem holds_int_of {h : Heap} {v : Value} {i : Int} (x : PySem.W.Holds h v i) : ∃ t, v = .int i t := by
  obtain ⟨as, r⟩ := x
  cases r with
  | int i t => exact ⟨t, rfl⟩
def rMaxT (K : PySem.W.Frag) : List V → Hp → VK → Prop := fun vs H Q => ∃ (a : Addr) (ns : List Int), vs = [V.ref a] ∧ SqT K H a (ns.map V.int) ∧ 0 < ns.length ∧ ∀ m, m ∈ ns → (∀ y, y ∈ ns → y ≤ m) → Q (.int m) H
def rMaxTD (K : PySem.W.Frag) : List V → List V → Hp → VK → Prop := fun vs zs H Q => ∃ (a : Addr) (ns : List Int) (d : Int), vs = [V.ref a] ∧ zs = [.int d] ∧ SqT K H a (ns.map V.int) ∧ (ns = [] → Q (.int d) H) ∧ ∀ m, m ∈ ns → (∀ y, y ∈ ns → y ≤ m) → Q (.int m) H
section
variable {X : Cx}
theorem cr_maxT (hc : X.calm = true) (hu : X.A.units + 64 < cLine) : CallR X (.builtin "max") (rMaxT X.K) := by
  intro pins s σ H vs us Q I r h
  obtain ⟨a, ns, rfl, hs, hne, q⟩ := h
  obtain ⟨its, rv, hl, _⟩ := I.tuple hs
  rw [Vals.ref1 r]
  cases ns with
  | nil => exact absurd hne (Nat.lt_irrefl 0)
  | cons x xs =>
    have hm := maxOf_is xs x
    refine PySem.W.max_tuple_datum (α := Int) (x := x) (xs := xs) (I.ok.hd hc) hl (PySem.W.HoldAll.of_ints rv.ints) (by show X.A.units + 1 + 0 < cLine; omega) fun i v h' tk hv hh hk => ?_
    obtain ⟨t, rfl⟩ := holds_int_of hh
    exact ⟨.int _, H, I.kept hk, ⟨_, rfl⟩, q _ hm.1 hm.2⟩
theorem cr_maxTD (hc : X.calm = true) (hu : X.A.units + 64 < cLine) : CallRK X (.builtin "max") [Str.ofString "default"] (rMaxTD X.K) := by
  intro pins s σ H vs zs us ws Q I r rz h
  obtain ⟨a, ns, d, rfl, rfl, hs, q0, q⟩ := h
  obtain ⟨its, rv, hl, _⟩ := I.tuple hs
  rw [Vals.ref1 r]
  match ws, rz with
  | [_], .cons ⟨t, rfl⟩ .nil =>
    refine PySem.W.max_tuple_datum_default (α := Int) (xs := ns) (I.ok.hd hc) hl (PySem.W.HoldAll.of_ints rv.ints) (by show X.A.units + 1 + 0 < cLine; omega) (fun e h' tk hk => ?_) fun y ys i v h' tk e hv hh hk => ?_
    · exact ⟨.int _, H, I.kept hk, ⟨_, rfl⟩, q0 e⟩
    · have hm := maxOf_is ys y
      rw [← e] at hm
      obtain ⟨t, rfl⟩ := holds_int_of hh
      exact ⟨.int _, H, I.kept hk, ⟨_, rfl⟩, q _ hm.1 hm.2⟩
end
def RMaxT : DA := fun ds M P => ∃ ns : List Int, ds = [.tup (ns.map D.int)] ∧ 0 < ns.length ∧ ∀ m, m ∈ ns → (∀ y, y ∈ ns → y ≤ m) → P (.int m) M
theorem dMaxT {K : PySem.W.Frag} : DCall K (rMaxT K) RMaxT := by
  intro F B M H vs ds P Q hx r ⟨ns, e, h0, h⟩ q
  subst e
  match vs, r with
  | _, .cons (.tup (a := a) h1 rs) .nil =>
    have e := rs.intsOf
    subst e
    exact ⟨a, ns, rfl, (tupAt_mono hx.fr h1).sq, h0, fun m hm hy => q _ M _ B H (h m hm hy) (Same.refl B) hx (.int _)⟩
section
variable {X : Cx} {N : List Str} {sc scope : Scope} {ρ ρ' ρw : Rho} {M : Mem} {P : D → Mem → Prop} {T : Bool → Mem → Prop} {e a b c o tg : Expr} {es : List Expr} {pos apos p p1 p2 kpos : Pos}
theorem EM.maxT (c : Ctx X N sc) (hu : X.A.units + 64 < cLine) (hm : X.mg "max" = none) (h : EM X a ρ M fun d M1 => RMaxT [d] M1 P) (h2 : glB sc "max" = true := by decide +kernel) (he : starEach [a] X.env = [(false, eval a X.env)] := by rfl) : EM X (.Call (.Name "max" p1) [a] [] pos) ρ M P :=
  EM.callB c (cr_maxT c.calm hu) dMaxT hm PyProof.Rows.boot_max (AM.cons (h.to fun d M1 h => AM.nil h) he) h2 (by decide +kernel) (by decide +kernel) he
theorem EM.maxTD (c : Ctx X N sc) (hu : X.A.units + 64 < cLine) (hm : X.mg "max" = none) (h : EM X a ρ M fun d M1 => EM X b ρ M1 fun e M2 => ∃ (ns : List Int) (z : Int), d = .tup (ns.map D.int) ∧ e = .int z ∧ (ns = [] → P (.int z) M2) ∧ ∀ m, m ∈ ns → (∀ y, y ∈ ns → y ≤ m) → P (.int m) M2) (h2 : glB sc "max" = true := by decide +kernel)
    (hea : starEach [a] X.env = (false, eval a X.env) :: starEach [] X.env := by rfl)
    (he : backTo pos (starEach [a] X.env) = (false, eval a X.env) :: backTo pos (starEach [] X.env) := by rfl) (hpl : (backTo pos (starEach [a] X.env)).any (·.1) = false := by rfl)
    (hall : (backToKw pos (keywordEach [⟨some (Str.ofString "default"), b, kpos⟩] X.env)).all (·.1.isSome) = true := by rfl) (hnone : (backToKw pos (keywordEach [⟨some (Str.ofString "default"), b, kpos⟩] X.env)).any (·.1.isNone) = false := by rfl) (hks : (backToKw pos (keywordEach [⟨some (Str.ofString "default"), b, kpos⟩] X.env)).filterMap (·.1) = [Str.ofString "default"] := by rfl) :
    EM X (.Call (.Name "max" p1) [a] [⟨some (Str.ofString "default"), b, kpos⟩] pos) ρ M P := ⟨fun F σ B H hr hx Q q => by
  have ha : AM X [a] ρ M fun ds M1 => ∃ d, ds = [d] ∧ EM X b ρ M1 fun e M2 => ∃ (ns : List Int) (z : Int), d = .tup (ns.map D.int) ∧ e = .int z ∧ (ns = [] → P (.int z) M2) ∧ ∀ m, m ∈ ns → (∀ y, y ∈ ns → y ≤ m) → P (.int m) M2 := AM.cons (h.to fun d M1 h => AM.nil ⟨d, rfl, h⟩) hea
  refine WE.of (pe_callBK (cr_maxTD c.calm hu) (c.gl _ h2) hm PyProof.Rows.boot_max WA.pa (pk_cons WE.pe pk_nil) (by decide +kernel) (by decide +kernel) he hpl hall hnone hks) (ha F σ B H hr hx _ fun ds M1 vs B1 H1 ⟨d, e1, h1⟩ s1 x1 r1 => ?_)
  subst e1
  show WE X b σ H1 fun z H2 => rMaxTD X.K vs [z] H2 Q
  refine h1 F σ B1 H1 (hr.mono s1) x1 _ fun e M2 w B2 H2 ⟨ns, z, e1, e2, q0, q1⟩ s2 x2 r2 => ?_
  subst e1 e2
  cases r2
  match vs, r1 with
  | _, .cons (.tup (a := ad) g1 rs) .nil =>
    have e := rs.intsOf
    subst e
    exact ⟨ad, ns, z, rfl, rfl, (tupAt_mono (s2.trans x2.fr) g1).sq, fun e0 => q _ M2 _ B2 H2 (q0 e0) (s1.trans s2) x2 (.int _), fun m hm hy => q _ M2 _ B2 H2 (q1 m hm hy) (s1.trans s2) x2 (.int _)⟩⟩
/-! ### x in a tuple or list of data of any depth -/
theorem TM.inDA (hu : X.A.units + 65 < cLine) (h : EM X a ρ M fun d M1 => EM X b ρ M1 fun e M2 => RInDA d e M2 fun z M3 => ∃ k, z = .bl k ∧ T k M3) (hm : behindInMarks .In b = false := by rfl) : TM X (.Compare a [.In] [b] pos) ρ M T := TM.cmp (op_inDA hu) dInDA h hm
/-! ### slices of texts -/
theorem EM.strHi (h : EM X a ρ M fun d M1 => EM X b ρ M1 fun e M2 => ∃ (z : Str) (n : Int), d = .str z ∧ e = .int n ∧ z.length ≤ sizeLine ∧ P (.str (cutS z none (some n))) M2) : EM X (.Subscript a (.Slice none (some b) none p2) pos) ρ M P := ⟨fun F σ B H hρ hx Q q =>
  WE.of (pe_slice sl_str WE.pe po_none (po_some WE.pe)) (h F σ B H hρ hx _ fun d M1 v B1 H1 h1 s1 x1 r1 => h1 F σ B1 H1 (hρ.mono s1) x1 _ fun e M2 w B2 H2 ⟨z, n, e1, e2, hz, h2⟩ s2 x2 r2 => by
    subst e1 e2
    cases r2
    cases r1
    exact ⟨_, rfl, z, rfl, hz, q _ M2 _ B2 H2 h2 (s1.trans s2) x2 (.str _)⟩)⟩
theorem EM.strLo (h : EM X a ρ M fun d M1 => EM X b ρ M1 fun e M2 => ∃ (z : Str) (n : Int), d = .str z ∧ e = .int n ∧ z.length ≤ sizeLine ∧ P (.str (cutS z (some n) none)) M2) : EM X (.Subscript a (.Slice (some b) none none p2) pos) ρ M P := ⟨fun F σ B H hρ hx Q q =>
  WE.of (pe_slice sl_str WE.pe (po_some WE.pe) po_none) (h F σ B H hρ hx _ fun d M1 v B1 H1 h1 s1 x1 r1 => h1 F σ B1 H1 (hρ.mono s1) x1 _ fun e M2 w B2 H2 ⟨z, n, e1, e2, hz, h2⟩ s2 x2 r2 => by
    subst e1 e2
    cases r2
    cases r1
    exact ⟨_, rfl, z, rfl, hz, q _ M2 _ B2 H2 h2 (s1.trans s2) x2 (.str _)⟩)⟩
theorem cutS_mem {z : Str} {lo hi : Option Int} {c : Nat} (h : c ∈ (cutS z lo hi).cps.toList) : c ∈ z.cps.toList := by
  have e : (cutS z lo hi).cps.toList = (z.cps.toList.drop (HT.sIx z.length 0 lo)).take (HT.sIx z.length z.length hi - HT.sIx z.length 0 lo) := rfl
  rw [e] at h
  exact List.mem_of_mem_drop (List.mem_of_mem_take h)
/-! ### slices of lists of texts: some of them -/
theorem cut_strs {K : PySem.W.Frag} {B : Hp} {xs : List V} {ws : List Str} (r : Reps K B xs (ws.map D.str)) (lo hi : Option Int) : ∃ ws' : List Str, ws'.Sublist ws ∧ Reps K B (cutV xs lo hi) (ws'.map D.str) := by
  refine ⟨(ws.drop (HT.sIx xs.length 0 lo)).take (HT.sIx xs.length xs.length hi - HT.sIx xs.length 0 lo), (List.take_sublist _ _).trans (List.drop_sublist _ _), ?_⟩
  rw [List.map_take, List.map_drop]
  exact (r.drop _).take _
theorem cut_lst {Q : VK} {B1 B2 H : Hp} {F M : Mem} {v : V} {ws : List Str} (lo hi : Option Int) (hx : Holds X.K B2 (M ++ F) H) (s2 : Same B1 B2) (r1 : Rep X.K B1 v (.lst (ws.map D.str)))
    (p : ∀ ws' : List Str, ws'.Sublist ws → P (.lst (ws'.map D.str)) M) (q : ∀ d M' v B' H', P d M' → Same B2 B' → Holds X.K B' (M' ++ F) H' → Rep X.K B' v d → Q v H') : rSlL X.K v lo hi H Q := by
  cases r1 with
  | @lst ad xs _ hl rs =>
    refine ⟨ad, xs, rfl, SqL.of (hx.fr _ _ (s2 _ _ hl)), fun pn hp => ?_⟩
    obtain ⟨ws', h1, h2⟩ := cut_strs rs lo hi
    have s3 : Same B2 (L2.upd B2 pn (.lst (cutV xs lo hi))) := Same.upd (hx.free hp)
    exact q _ M _ _ _ (p ws' h1) s3 (hx.new hp) (.lst upd_same (h2.mono (s2.trans s3)))
theorem EM.cutHi (h : EM X a ρ M fun d M1 => EM X b ρ M1 fun e M2 => ∃ (ws : List Str) (n : Int), d = .lst (ws.map D.str) ∧ e = .int n ∧ ∀ ws' : List Str, ws'.Sublist ws → P (.lst (ws'.map D.str)) M2) : EM X (.Subscript a (.Slice none (some b) none p2) pos) ρ M P := ⟨fun F σ B H hρ hx Q q =>
  WE.of (pe_slice sl_list WE.pe po_none (po_some WE.pe)) (h F σ B H hρ hx _ fun d M1 v B1 H1 h1 s1 x1 r1 => h1 F σ B1 H1 (hρ.mono s1) x1 _ fun e M2 w B2 H2 ⟨z, n, e1, e2, h2⟩ s2 x2 r2 => by
    subst e1 e2
    cases r2
    exact ⟨_, rfl, cut_lst _ _ x2 s2 r1 h2 fun d M' v B' H' p s x r => q d M' v B' H' p (s1.trans (s2.trans s)) x r⟩)⟩
theorem EM.cutLo (h : EM X a ρ M fun d M1 => EM X b ρ M1 fun e M2 => ∃ (ws : List Str) (n : Int), d = .lst (ws.map D.str) ∧ e = .int n ∧ ∀ ws' : List Str, ws'.Sublist ws → P (.lst (ws'.map D.str)) M2) : EM X (.Subscript a (.Slice (some b) none none p2) pos) ρ M P := ⟨fun F σ B H hρ hx Q q =>
  WE.of (pe_slice sl_list WE.pe (po_some WE.pe) po_none) (h F σ B H hρ hx _ fun d M1 v B1 H1 h1 s1 x1 r1 => h1 F σ B1 H1 (hρ.mono s1) x1 _ fun e M2 w B2 H2 ⟨z, n, e1, e2, h2⟩ s2 x2 r2 => by
    subst e1 e2
    cases r2
    exact ⟨_, rfl, cut_lst _ _ x2 s2 r1 h2 fun d M' v B' H' p s x r => q d M' v B' H' p (s1.trans (s2.trans s)) x r⟩)⟩
theorem EM.cutBo (h : EM X a ρ M fun d M1 => EM X b ρ M1 fun e M2 => ∃ n : Int, e = .int n ∧ EM X c ρ M2 fun g M3 => ∃ (ws : List Str) (m : Int), d = .lst (ws.map D.str) ∧ g = .int m ∧ ∀ ws' : List Str, ws'.Sublist ws → P (.lst (ws'.map D.str)) M3) : EM X (.Subscript a (.Slice (some b) (some c) none p2) pos) ρ M P := ⟨fun F σ B H hρ hx Q q =>
  WE.of (pe_slice sl_list WE.pe (po_some WE.pe) (po_some WE.pe)) (h F σ B H hρ hx _ fun d M1 v B1 H1 h1 s1 x1 r1 => h1 F σ B1 H1 (hρ.mono s1) x1 _ fun e M2 w B2 H2 ⟨n, e2, h2⟩ s2 x2 r2 => by
    subst e2
    cases r2
    refine ⟨_, rfl, h2 F σ B2 H2 (hρ.mono (s1.trans s2)) x2 _ fun g M3 u B3 H3 ⟨z, m, e1, e3, h3⟩ s3 x3 r3 => ?_⟩
    subst e1 e3
    cases r3
    exact ⟨_, rfl, cut_lst _ _ x3 (s2.trans s3) r1 h3 fun d M' v B' H' p s x r => q d M' v B' H' p (s1.trans (s2.trans (s3.trans s))) x r⟩)⟩
/-- a, b, .. = a list left as it is -/
theorem GM.lst {ts : List Expr} {xs : List Str} {ds : List D} {k : _} (c : Ctx X N sc) (h : GMs X N ts xs ds ρ ρ') (hn : (assignEach ts X.env).length = ds.length := by rfl) (hst : (assignEach ts X.env).findIdx? (·.1) = none := by rfl) : GM X N (.Tuple ts k pos) xs (.lst ds) ρ ρ' := ⟨fun σ B H M v hr hx r Q q => by
  cases r with
  | lst a rs => exact WG.of (pg_unl c.calm WGs.pgs hn hst) ⟨_, _, rfl, SqL.of (hx.fr _ _ a), rs.length, h σ B H M _ hr hx rs Q q⟩⟩
end
end Dl
namespace Dl
open PySem PySem.Spec PyProof.Rows L2
/-! ### a tuple times any small number, also none; the empty tuple too -/
theorem tuple_mul0 (l : Addr) (items : Array Value) (n : Nat) (dd : Option Addr) (sl : Array (Option Value)) (u : Tok) (hne : items.isEmpty = false) :
    Meets (Builtin.«tuple.__mul__» ⟨[.ref l, .int 0 u], []⟩) (fun _ R s => s.heap.get? l = some { cls := .type "tuple", dict := dd, data := .seq items n, slots := sl } ∧
      R (.ok (.ret (Value.ref s.heap.objs.size))) { s with heap := s.heap.push { cls := Value.type "tuple", data := Data.seq #[] }, toks := s.toks }) :=
  .of_wp fun prog w A R s h => by
    obtain ⟨hp, g, d, tk, os⟩ := s
    obtain ⟨hl, h⟩ := h
    have f1 := AutoSeq1.idx_int
    wp_walk using wpAny_loadPart' hl
    repeat (first
      | (refine wpAny_ite_false (decide_eq_false (show ¬ ((decide ((0 : Int) < -(2 ^ 63)) || decide ((0 : Int) ≥ 2 ^ 63)) = true) by decide)) ?_; wp_walk using wpAny_loadPart' hl)
      | (refine wpAny_ite_false (decide_eq_false (show ¬ (items.isEmpty || (0 : Int) == 1) = true by rw [hne]; decide)) ?_; wp_walk using wpAny_loadPart' hl)
      | (refine wpAny_ite_true (decide_eq_true (show (decide ((0 : Int) ≤ 0) || items.isEmpty) = true by simp)) ?_; wp_walk using wpAny_loadPart' hl))
    exact ⟨_, rfl, h⟩
theorem tuple_mulE (l : Addr) (items : Array Value) (n : Nat) (dd : Option Addr) (sl : Array (Option Value)) (k : Int) (u : Tok) (hne : items.isEmpty = true) (c0 : (decide (k < -(2 ^ 63)) || decide (k ≥ 2 ^ 63)) = false) :
    Meets (Builtin.«tuple.__mul__» ⟨[.ref l, .int k u], []⟩) (fun _ R s => s.heap.get? l = some { cls := .type "tuple", dict := dd, data := .seq items n, slots := sl } ∧
      R (.ok (.ret (Value.ref l))) s) :=
  .of_wp fun prog w A R s h => by
    obtain ⟨hp, g, d, tk, os⟩ := s
    obtain ⟨hl, h⟩ := h
    have f1 := AutoSeq1.idx_int
    wp_walk using wpAny_loadPart' hl
    repeat (first
      | (refine wpAny_ite_false (decide_eq_false (by rw [c0]; exact Bool.false_ne_true)) ?_; wp_walk using wpAny_loadPart' hl)
      | (refine wpAny_ite_true (decide_eq_true (show (items.isEmpty || k == 1) = true by rw [hne, Bool.true_or])) ?_; wp_walk using wpAny_loadPart' hl))
    exact ⟨_, rfl, h⟩
def rRepT0 (K : PySem.W.Frag) : R2 := fun x y H Q => ∃ l xs, x = .ref l ∧ y = .int 0 ∧ SqT K H l xs ∧ xs ≠ [] ∧ ∀ p, H p = none → Q (.ref p) (L2.upd H p (.tup []))
def rRepTE (K : PySem.W.Frag) : R2 := fun x y H Q => ∃ l k, x = .ref l ∧ y = .int k ∧ SqT K H l [] ∧ (0 ≤ k ∧ k ≤ 1000) ∧ Q (.ref l) H
theorem op_repT0 {X : Cx} : OpR X (binaryOp .Mult) (rRepT0 X.K) := by
  intro pins s σ H x y v u Q I rx ry h
  obtain ⟨l, xs, rfl, rfl, hT, hne, q⟩ := h
  cases rx
  obtain ⟨t, rfl⟩ := ry
  obtain ⟨its, r, ⟨⟨cls, dd, data, sl⟩, ho, hc, n, hd⟩, hs⟩ := I.tuple hT
  simp only at hc hd
  subst hc hd
  have hi : its.toArray.isEmpty = false := by
    cases its with
    | nil => exact absurd (List.eq_nil_of_length_eq_zero r.length) hne
    | cons a b => rfl
  have I2 : Inv X pins σ (L2.upd H s.heap.objs.size (.tup [])) { s with heap := s.heap.push { cls := Value.type "tuple", data := Data.seq #[] }, toks := s.toks } :=
    I.laid (t' := s.toks) (a := s.heap.objs.size) (fun _ _ z => Heap.get?_push_of_some _ z) (Nat.le_refl _) ⟨Nat.zero_le _, [], .nil, _, Heap.get?_push_size _ rfl, rfl, _, rfl⟩
  exact wpAny_binaryOp_repeat_ref (T := "tuple") (U := "int") (by decide) ⟨_, ho, rfl⟩ (fun s' => typeIs_int s' 0 t) noFill_tuple_mul F.fills_int_mul F.slot_int_rmul repeat_tuple F.slot_int_index.lookup
    (call_meets F.slot_int_rmul (typeIs_int s 0 t) F.entry_int_rmul (F.args_int_rmul_2 _ _) (int_rmul_tuple 0 t l its.toArray n dd sl)
      ⟨ho, rfl, ⟨_, ho, rfl⟩, call_meets F.slot_tuple_mul ⟨_, ho, rfl⟩ F.entry_tuple_mul (F.args_tuple_mul_2 _ _) (tuple_mul0 l its.toArray n dd sl t hi) ⟨ho, ⟨.ref _, _, I2, rfl, q _ (I.hok.fresh (Nat.le_refl _))⟩⟩⟩)
theorem op_repTE {X : Cx} : OpR X (binaryOp .Mult) (rRepTE X.K) := by
  intro pins s σ H x y v u Q I rx ry h
  obtain ⟨l, k, rfl, rfl, hT, ⟨hk0, hk1⟩, q⟩ := h
  cases rx
  obtain ⟨t, rfl⟩ := ry
  obtain ⟨its, r, ⟨⟨cls, dd, data, sl⟩, ho, hc, n, hd⟩, hs⟩ := I.tuple hT
  simp only at hc hd
  subst hc hd
  cases r
  have c0 : (decide (k < -(2 ^ 63)) || decide (k ≥ 2 ^ 63)) = false := by
    rw [decide_eq_false (by omega), decide_eq_false (by omega)] <;> rfl
  exact wpAny_binaryOp_repeat_ref (T := "tuple") (U := "int") (by decide) ⟨_, ho, rfl⟩ (fun s' => typeIs_int s' k t) noFill_tuple_mul F.fills_int_mul F.slot_int_rmul repeat_tuple F.slot_int_index.lookup
    (call_meets F.slot_int_rmul (typeIs_int s k t) F.entry_int_rmul (F.args_int_rmul_2 _ _) (int_rmul_tuple k t l #[] n dd sl)
      ⟨ho, rfl, ⟨_, ho, rfl⟩, call_meets F.slot_tuple_mul ⟨_, ho, rfl⟩ F.entry_tuple_mul (F.args_tuple_mul_2 _ _) (tuple_mulE l #[] n dd sl k t rfl c0) ⟨ho, ⟨.ref l, H, I, rfl, q⟩⟩⟩)
def rRepTA (K : PySem.W.Frag) : R2 := fun x y H Q => rRepA K x y H Q ∨ (rRepT0 K x y H Q ∨ rRepTE K x y H Q)
def RRepTA : DR := fun d e M P => match d, e with
  | .tup l, .int k => 0 ≤ k ∧ k ≤ 1000 ∧ l.length ≤ 1000 ∧ P (.tup (List.replicate k.toNat l).flatten) M
  | _, _ => False
theorem flat_nil {α : Type} : ∀ n : Nat, (List.replicate n ([] : List α)).flatten = []
  | 0 => rfl
  | n + 1 => by rw [List.replicate_succ, List.flatten_cons, flat_nil n] <;> rfl
theorem dRepTA {K : PySem.W.Frag} : DOp K (rRepTA K) RRepTA := by
  intro F B M H x y d e P Q hx r1 r2 hR q
  match d, e, hR with
  | .tup l, .int k, hR =>
    obtain ⟨h3, h4, h5, h6⟩ := hR
    by_cases hl : l = []
    · subst hl
      rw [flat_nil] at h6
      cases r2
      cases r1 with
      | @tup a xs _ h1 rs =>
        cases rs
        exact .inr (.inr ⟨a, k, rfl, rfl, (tupAt_mono hx.fr h1).sq, ⟨h3, h4⟩, q _ M _ B H h6 (Same.refl B) hx (.tup h1 .nil)⟩)
    by_cases hk : k = 0
    · subst hk
      cases r2
      cases r1 with
      | @tup a xs _ h1 rs =>
        refine .inr (.inl ⟨a, xs, rfl, rfl, (tupAt_mono hx.fr h1).sq, fun z => ?_, fun p hp => ?_⟩)
        · subst z
          cases rs
          exact hl rfl
        · have s : Same B (L2.upd B p (.tup [])) := Same.upd (hx.free hp)
          exact q _ M _ _ _ h6 s (hx.new hp) (.tup (.inl upd_same) .nil)
    · exact .inl (dRepT F B M H x y (.tup l) (.int k) P Q hx r1 r2 ⟨hl, by omega, h4, h5, h6⟩ q)
section
variable {X : Cx} {ρ : Rho} {M : Mem} {P : D → Mem → Prop} {a b : Expr} {pos : Pos}
theorem EM.repTA (h : EM X a ρ M fun d M1 => EM X b ρ M1 fun e M2 => RRepTA d e M2 P) : EM X (.BinOp a .Mult b pos) ρ M P := EM.op ((op_repT.or op_repT1).or (op_repT0.or op_repTE)) dRepTA h
end
end Dl
namespace Dl
open PySem PySem.Spec PyProof.Rows L2
open LamX (CodeO TabB LamS lamCx lamEnv)
/-! ### a lambda without parameters, handed to a def of the text -/
theorem upd_comm {H : Hp} {a b : Addr} {x y : HO} (h : a ≠ b) : L2.upd (L2.upd H a x) b y = L2.upd (L2.upd H b y) a x := by
  funext c
  by_cases ha : c = a
  · subst ha
    rw [upd_ne h, upd_same, upd_same]
  · by_cases hb : c = b
    · subst hb
      rw [upd_same, upd_ne ha, upd_same]
    · rw [upd_ne hb, upd_ne ha, upd_ne ha, upd_ne hb]
theorem upd_id {H : Hp} {a : Addr} {x : HO} (h : H a = some x) : L2.upd H a x = H := by
  funext c
  by_cases e : c = a
  · subst e
    rw [upd_same, h]
  · rw [upd_ne e]
theorem Holds.recell {K : PySem.W.Frag} {B H : Hp} {M : Mem} (x : Holds K B M H) {k : Nat} {p : Addr} {mo mo' : MO} {o : HO} (h : M[k]? = some (p, mo)) (hp : H p = some o) (r : RepO K B mo' o) : Holds K B (M.set k (p, mo')) H := by
  have y := x.put h r
  rwa [upd_id hp] at y
/-- the table of a code object: each code object in it bears the name q, and is known -/
def tabφ (q : Str) : Hp → HO → Prop := fun B o => ∃ ps : Array Value, o = .tbl ps ∧ TriplesOk ps.toList ∧ ∀ (pos : Pos) (cv : Value), codeAmong pos ps.toList = some cv → ∃ c, cv = .ref c ∧ B c = some (CodeO c q)
theorem tab_rep {K : PySem.W.Frag} {B : Hp} {q : Str} {o : HO} (h : tabφ q B o) : RepO K B (.dic (tabφ q)) o := by
  refine .dic h (fun B' s => ?_) (fun xs z => ?_)
  · obtain ⟨ps, e, t, k⟩ := h
    exact ⟨ps, e, t, fun pos cv hc => let ⟨c, e1, e2⟩ := k pos cv hc; ⟨c, e1, s _ _ e2⟩⟩
  · obtain ⟨ps, e, _⟩ := h
    rw [e] at z
    cases z
/-- .. with the slots of the lambda's maker -/
def tabσ (K : PySem.W.Frag) (q : Str) (σ : L2.St) (ρ : Rho) (c : Addr) : Hp → HO → Prop := fun B o => tabφ q B o ∧ EnvRep K B σ ρ ∧ B c = some (CodeO c q)
theorem tabσ_rep {K : PySem.W.Frag} {B : Hp} {q : Str} {σ : L2.St} {ρ : Rho} {c : Addr} {o : HO} (h : tabφ q B o) (r : EnvRep K B σ ρ) (hc : B c = some (CodeO c q)) : RepO K B (.dic (tabσ K q σ ρ c)) o := by
  cases tab_rep (K := K) h with
  | dic h1 h2 h3 => exact .dic ⟨h1, r, hc⟩ (fun B' s => ⟨h2 B' s, r.mono s, s _ _ hc⟩) h3
section
variable {X : Cx} {pins : List (Addr × Obj)} {σ : L2.St} {H : Hp} {s : Shared}
/-- the making of a lambda: its code object is in the table, or is new and goes there -/
theorem lam_made {c P : Addr} {params : Arguments} {body : Expr} {scope : Scope} {pos : Pos} {ps : Array Value} {E : Value → Shared → Prop} {Q : Value → Shared → Prop} (Kn : Addr → Prop) (I : Inv X pins σ H s) (TB : TabB X.base X.mg c P) (hcode : X.env.code = .ref c)
    (hP : H P = some (.tbl ps)) (ht : TriplesOk ps.toList) (known : ∀ (p' : Pos) (cv : Value), codeAmong p' ps.toList = some cv → ∃ c', cv = .ref c' ∧ H c' = some (CodeO c' (X.env.qual ++ "<lambda>")) ∧ Kn c')
    (hdef : defaultsOf params X.env = ([], [])) (hfree : ∀ y ∈ scope.names, y.2 = .free → ∃ c, X.env.cells.lookup y.1 = some c)
    (fin : ∀ (f c' : Addr) (pm ctv : Value) (H1 : Hp) (s1 : Shared), ((H1 = H ∧ Kn c') ∨ ∃ more : Array Value, H c' = none ∧ P ≠ c' ∧ H1 = L2.upd (L2.upd H P (.tbl (ps ++ more))) c' (CodeO c' (X.env.qual ++ "<lambda>")) ∧ TriplesOk (ps ++ more).toList ∧
        ∀ (p' : Pos) (cv : Value), codeAmong p' (ps ++ more).toList = some cv → codeAmong p' ps.toList = some cv ∨ cv = .ref c') → Inv X pins σ H1 s1 →
      s1.heap.get? f = some (PySem.W.kla_obj "<lambda>" (X.env.qual ++ "<lambda>") params body scope (cloFrom X.env.cells scope.names []) pm c' ctv) → H1 f = none → f ∉ frs X.stack → H1 c' = some (CodeO c' (X.env.qual ++ "<lambda>")) → Q (.ref f) s1) :
    wpAny (model X.prog X.w) X.A (eval (.Lambda params body scope pos) X.env) Q E s := by
  have nofr : ∀ f, s.heap.objs.size ≤ f → f ∉ frs X.stack := fun f hf hm => by
    rcases List.mem_cons.mp (I.stkSub _ hm) with e | e
    · exact absurd (e ▸ hf) (Nat.not_le.mpr I.lt)
    · exact I.nofs hf e
  have at_ := I.hok P _ hP
  refine PySem.W.kla_eval hdef ?_
  rcases hc : codeAmong pos ps.toList with _ | cv
  · apply PySem.W.kla_makeFunction (mg := X.mg) (c := c) (P := P) (ps := ps) (closure_ok hfree) I.ok.glob (I.mod.glob.keeps I.bk) hcode (TB.code.keeps I.bk) at_ ht hc TB.gP (TB.bm.keeps I.bk)
    intro c' ctv h1 tk keep ge lt rec_ tab1
    obtain ⟨c2, oc, vs, t, e2, hoc, hd, hv⟩ := rec_
    cases e2
    have big : s.heap.objs.size ≤ h1.objs.size := Nat.le_trans ge (Nat.le_of_lt lt)
    have nc : H c' = none := I.hok.fresh ge
    have nPc : P ≠ c' := ne_of_none hP nc
    have J := LamX.inv_table (t' := tk) (more := #[rawInt pos.line, rawInt pos.col, .ref c']) (h' := h1.push (PySem.W.kla_obj "<lambda>" (X.env.qual ++ "<lambda>") params body scope (cloFrom X.env.cells scope.names []) ((X.mg "__name__").getD .none) c' ctv)) I hP
      (fun b o hb e => Heap.get?_push_of_some _ (keep b o hb e)) (Heap.get?_push_of_some _ tab1) ge ⟨oc, vs, t, Heap.get?_push_of_some _ hoc, hd, hv⟩
    have tl : (ps ++ #[rawInt pos.line, rawInt pos.col, .ref c']).toList = ps.toList ++ [rawInt pos.line, rawInt pos.col, .ref c'] := by simp
    refine fin h1.objs.size c' _ ctv _ _ (.inr ⟨_, nc, nPc, rfl, by rw [tl]; exact PySem.TriplesOk_snoc _ _ _ _ ht, fun p' cv h => LamX.among_app _ ht (by rw [tl] at h; exact h)⟩) J (Heap.get?_push_size _ rfl) ?_ (nofr _ big) upd_same
    rw [upd_ne (Nat.ne_of_gt lt), upd_ne fun z => ?_]
    · exact I.hok.fresh big
    · have := Heap.lt_size at_
      rw [← z] at this
      exact absurd big (Nat.not_le.mpr this)
  · obtain ⟨c', e, hco, kn⟩ := known pos cv hc
    rw [e] at hc
    apply PySem.W.kla_makeFunctionHit (mg := X.mg) (c := c) (P := P) (ps := ps) (closure_ok hfree) I.ok.glob (I.mod.glob.keeps I.bk) hcode (TB.code.keeps I.bk) at_ ht hc (TB.bm.keeps I.bk)
    intro ctv h1 tk keep big
    exact fin h1.objs.size c' _ ctv H _ (.inl ⟨rfl, kn⟩) (I.kept (t' := tk) fun b o e => Heap.get?_push_of_some _ (keep b o e)) (Heap.get?_push_size _ rfl) (I.hok.fresh big) (nofr _ big) hco
end
/-- the names in the lambda's body -/
theorem Ctx.lam {X : Cx} {N : List Str} {sc scope : Scope} {A : Around} {outer : List Env} {s : Shared} {H : Hp} {E : XK} {f c' : Addr} (c : Ctx X N sc) (L : LamS X.env.scope scope) : Ctx (lamCx X A outer s H E scope f c') N scope := by
  refine ⟨c.nm, c.nd, rfl, L.kind, passes_of rfl, fun x h => vis_of h, fun x h => gl_of h, fun x h => ?_, fun x h => cf_of h, fun x h => ?_⟩
  · rcases loc_of h with k | k
    · exact absurd rfl (L.own _ (PySem.mem_of_lookup k)).1
    · exact absurd rfl (L.own _ (PySem.mem_of_lookup k)).2
  · exact absurd rfl (L.own _ (PySem.mem_of_lookup (lcl_of h))).1
theorem takes_len {X : Cx} {W : WX} (tk : Takes X W) : Takes X (fun cls d σ H => σ.length = X.N.length → W cls d σ H) := fun u s' ⟨a, B, sI, pins, σ, H, cls, d, e, I, nb, up, sky, na, os, ag, w⟩ =>
  tk u s' ⟨a, B, sI, pins, σ, H, cls, d, e, I, nb, up, sky, na, os, ag, w I.len⟩
/-- nothing known of the slots -/
def none_ (N : List Str) : Rho := List.replicate N.length none
theorem none_rep {K : PySem.W.Frag} {B : Hp} {N : List Str} {σ : L2.St} (h : σ.length = N.length) : EnvRep K B σ (none_ N) :=
  ⟨by unfold none_; rw [List.length_replicate, h], fun i d e => by
    unfold none_ at e
    rw [List.getElem?_replicate] at e
    split at e <;> cases e⟩
section
variable {X : Cx} {N Ng : List Str} {sc scope : Scope} {ρ : Rho} {M : Mem} {P : D → Mem → Prop} {pos p lpos : Pos}
/-- x(lambda: body) -/
theorem EM.lam {x a : Str} {k kt : Nat} {cc T g : Addr} {st : Stmt} {fd : FuncData} {params : Arguments} {body : Expr} (Re : Er → Mem → Prop) (Pb : D → Mem → Prop) (c : Ctx X N sc) (hr : Room (k + 2) X.A)
    (F : Fun X.K x x st g fd) (Sg : FnScope Ng [a] (defScope st)) (hm : X.mg x = some (.ref g)) (hb : L2.Binds X.K fd [a] [])
    (TB : TabB X.base X.mg cc T) (hcode : X.env.code = .ref cc) (hM : M[kt]? = some (T, .dic (tabφ (X.env.qual ++ "<lambda>")))) (L : LamS X.env.scope scope) (hdef : defaultsOf params X.env = ([], []))
    (hbind : ∀ (q : Str) (cl : List (Str × Addr)) (pm cv ctv : Value), bindArgs (PySem.W.kla_fn "<lambda>" q params body scope cl pm cv ctv) ⟨[], []⟩ = pure [])
    (hbody : ∀ A outer s H E f c', Ctx (lamCx X A outer s H E scope f c') N scope → Room k (A.deeper (lamEnv X scope s.heap.objs.size f c')) → EMx (lamCx X A outer s H E scope f c') body ρ M (fun y _ M' => Re y M') Pb)
    (hword : ∀ Z : Cx, Z.prog = X.prog → Z.w = X.w → Z.K = X.K → Z.mg = X.mg → Z.base = X.base → Z.stack = Z.env :: Z.outer → Z.env.frame = some Z.env.locals → Ctx Z Ng (defScope st) → Room (k + 1) Z.A → ∀ (f : Addr) (M2 : Mem),
      (∀ pn xe p1 p2, EMx (Z.tr pn xe) (.Call (.Name a p1) [] [] p2) (startD Ng [.raw (.ref f)]) M2 (fun y ρ' M' => ρ' = none_ Ng ∧ Re y M') Pb) → SM Z (defBody st) (startD Ng [.raw (.ref f)]) M2 { nx := fun _ _ => False, rt := P })
    (hN0 : Ng[0]? = some a) (hva : visB (defScope st) a = true) (hda : (a == ("__debug__" : Str)) = false) (hca : (a == ("__classdict__" : Str)) = false)
    (hg : glB sc x = true := by decide +kernel) (hdb : (x == ("__debug__" : Str)) = false := by decide +kernel) : EM X (.Call (.Name x p) [.Lambda params body scope lpos] [] pos) ρ M P := ⟨fun Fr σ B H hρ hx Q q pins s I => by
  obtain ⟨o, hT, rT, nT⟩ := hx.at (at_app hM)
  cases rT with
  | dic tφ _ _ =>
  obtain ⟨ps, eo, tok, known⟩ := tφ
  subst eo
  refine wpAny_Call_Name_kw (ld_glob I (c.gl x hg) hm ?_ hdb)
  refine PySem.W.callWith_K (h₀ := X.base) I.ok.mod.kin F.kp ?_ (by rfl) (by rfl)
  show wpAny _ _ (spliced ((false, eval (.Lambda params body scope lpos) X.env) :: backTo pos (starEach [] X.env))) _ _ s
  refine Calls.spliced_cons (lam_made (fun c' => B c' = some (CodeO c' (X.env.qual ++ "<lambda>"))) I TB hcode hT tok (fun p' cv h => let ⟨c', e1, e2⟩ := known p' cv h; ⟨c', e1, hx.fr _ _ e2, e2⟩) hdef (L.has I.ok) fun f c' pm ctv H1 s1 how I1 hf hfn hfr hco => ?_)
  refine Calls.spliced_nil ⟨I1.kIn, ?_⟩
  -- the memory with the slots laid by
  have mem : ∃ B1, Same B B1 ∧ Holds X.K B1 (M.set kt (T, .dic (tabσ X.K (X.env.qual ++ "<lambda>") σ ρ c')) ++ Fr) H1 := by
    rcases how with ⟨e, hB⟩ | ⟨more, nc, nTc, e, tok2, old⟩
    · subst e
      refine ⟨B, Same.refl B, ?_⟩
      have y := hx.recell (at_app hM) hT (tabσ_rep (σ := σ) (ρ := ρ) ⟨ps, rfl, tok, known⟩ hρ hB)
      rwa [set_app hM] at y
    · subst e
      have s1' : Same B (L2.upd B c' (CodeO c' (X.env.qual ++ "<lambda>"))) := Same.upd (hx.free nc)
      refine ⟨_, s1', ?_⟩
      have y := (hx.new (o := CodeO c' (X.env.qual ++ "<lambda>")) nc).put (at_app hM) (o := .tbl (ps ++ more)) (tabσ_rep (σ := σ) (ρ := ρ) (c := c') (q := X.env.qual ++ "<lambda>") ⟨_, rfl, tok2, fun p' cv h => ?_⟩ (hρ.mono s1') upd_same)
      · rw [set_app hM, upd_comm (Ne.symm nTc)] at y
        exact y
      · rcases old p' cv h with z | z
        · obtain ⟨c0, e1, e2⟩ := known p' cv z
          exact ⟨c0, e1, s1' _ _ e2⟩
        · exact ⟨c', z, upd_same⟩
  obtain ⟨B1, sB, hx1⟩ := mem
  have hkt : kt < M.length := (List.getElem?_eq_some_iff.mp hM).1
  obtain ⟨oc, od, kV, doc, pm', an, cdg, ct, osl, ef, lk, hcg⟩ := F.ex
  subst ef
  have rc : codeAny (model X.prog X.w) X.A (.call (.ref g) ⟨[.ref f], []⟩) (CR CX0 X.stack X.prog X.w H1 s1 Q E0) s1 := by
    refine LamX.run_ofS (CX := CX0) (N := Ng) (ps := [a]) (us := [.ref f]) (vs := [.ref f]) lk hcg Sg hr I1.env0 (hb s1 [.ref f] I1.kIn rfl) (.cons rfl .nil) rfl fun hr' => ?_
    refine ⟨_, (WSs.ps (X := (cxOf CX0 X.prog X.w X.K X.mg X.base Ng x (defScope st) g cdg X.A X.stack s1 H1 E0).nox)).nox, ?_⟩
    refine (hword (cxOf CX0 X.prog X.w X.K X.mg X.base Ng x (defScope st) g cdg X.A X.stack s1 H1 E0).nox rfl rfl rfl rfl rfl rfl rfl (Ctx.fn rfl Sg.nd rfl rfl Sg.kind (fun _ => rfl) PassesOwn.never) hr' f (M.set kt (T, .dic (tabσ X.K (X.env.qual ++ "<lambda>") σ ρ c'))) (fun pn xe p1 p2 => ⟨fun W tk F' σZ B' HZ hrZ hxZ l Q' q' => ?_⟩)).run
      Fr (L2.start Ng [.ref f]) B1 H1 (start_rep (.cons (.raw _) .nil)) hx1 _ ⟨fun _ _ _ _ _ p => p.elim, fun d M v B' H' p s r x => q d M v B' H' p (sB.trans s) x r, fun _ _ _ _ _ p => p.elim, fun _ _ _ _ _ p => p.elim⟩
    have hMs : (M.set kt (T, MO.dic (tabσ X.K (X.env.qual ++ "<lambda>") σ ρ c')))[kt]? = some (T, .dic (tabσ X.K (X.env.qual ++ "<lambda>") σ ρ c')) := List.getElem?_set_self hkt
    obtain ⟨o2, hT2, rT2, nT2⟩ := hxZ.at (at_app hMs)
    cases rT2 with
    | dic tσ _ _ =>
    obtain ⟨tφ2, hρ2, hc2⟩ := tσ
    have hx2 : Holds X.K B' (M ++ F') HZ := by
      have y := hxZ.recell (at_app hMs) hT2 (tab_rep tφ2)
      rw [set_app hMs, List.set_set] at y
      have e : M.set kt (T, MO.dic (tabφ (X.env.qual ++ "<lambda>"))) = M := by
        refine List.ext_getElem? fun i => ?_
        by_cases e : kt = i
        · subst e
          rw [List.getElem?_set_self hkt, hM]
        · rw [List.getElem?_set_ne e]
      rwa [e] at y
    refine WE.of (LamX.pe_act (CXg := CX0) (Eg := E0) (Ng := Ng) (i := 0) (E := fun cls d H' => ∀ σ' : L2.St, σ'.length = Ng.length → W cls d σ' H') (W := fun cls d σ H => σ.length = Ng.length → W cls d σ H)
      (tb := fun σ H Q => ∀ A outer s0 H0, Room k (A.deeper (lamEnv X scope s0.heap.objs.size f c')) → WE (lamCx X A outer s0 H0 (fun cls d H' => ∀ σ' : L2.St, σ'.length = Ng.length → W cls d σ' H') scope f c') body σ H Q) I1 L hf hfn hfr (hbind _ _ _ _ _) (takes_len tk) (fun cls d σ' H' h hl => h σ' hl) hr'
      (fun A outer s0 H0 hr2 => ⟨fun pins s σ H Q I h => h A outer s0 H0 hr2 pins s I⟩) hN0 (vis_of hva) hda hca) ⟨?_, hxZ.fr _ _ hc2, fun A outer s0 H0 hr2 => ?_⟩
    · obtain ⟨v, h1, h2⟩ := hrZ.at' 0 (.raw (.ref f)) rfl
      cases h2
      exact h1
    · exact (hbody A outer s0 H0 _ f c' (c.lam L) hr2).run (fun cls d _ H => ∀ σ' : L2.St, σ'.length = Ng.length → W cls d σ' H) (takes_of rfl rfl rfl rfl) F' σ B' HZ hρ2 hx2
        (fun y ρ1 M' cls d σ1 B2 H2 hR s _ x hrx σ' hl => l y (none_ Ng) M' cls d σ' B2 H2 ⟨rfl, hR⟩ s (none_rep hl) x hrx) Q' q'
  refine wpAny_call (codeAny_mono rc fun r s2 hq => ?_)
  cases r with
  | error e => exact (show False from hq).elim
  | ok fl =>
    cases fl with
    | ret u => exact I1.after hq
    | next => exact False.elim hq
    | brk => exact False.elim hq
    | cont => exact False.elim hq⟩
end
/-- THE RULE for a def that makes lambdas: its code object is told -/
theorem ok_fnL {P : Program} {w : World} {K : PySem.W.Frag} {mg : Str → Option Value} {base : Heap} {k : Nat} {f cc : Addr} {name qual : Str} {params : Arguments} {body : List Stmt} {scope : Scope} {dV kV doc pm ct oc : Value} {an od : Option Addr} {osl : Array (Option Value)} {N ps : List Str} {S : DA}
    (lk : K.lookup f = some ⟨oc, od, .func (PySem.W.fnOf name qual params body scope dV kV doc pm an (.ref cc) ct), osl⟩) (hcd : PySem.W.codeIn K (.ref cc) qual = true) (sc : FnScope N ps scope) (hl : DLen S ps.length)
    (hbody : ∀ X : Cx, X.prog = P → X.w = w → X.K = K → X.mg = mg → X.base = base → X.env.code = .ref cc → X.env.scope = scope → X.env.qual = qual ++ ".<locals>." → Ctx X N scope → Room k X.A → ∀ ds M (Q : D → Mem → Prop), S ds M Q → SM X body (startD N ds) M { nx := fun _ M' => Q .non M', rt := Q }) :
    FnOk P w K mg base CX0 (k + 1) f (PySem.W.fnOf name qual params body scope dV kV doc pm an (.ref cc) ct) ps (spD K S) := by
  refine fn_of lk hcd sc (fun vs H Q E h => ?_) fun A outer s H vs Q E hr h => ?_
  · obtain ⟨F, B, M, ds, r, _, h⟩ := h
    rw [r.length]
    exact hl _ _ _ h
  · obtain ⟨F, B, M, ds, r, x, h⟩ := h
    refine ⟨_, (WSs.ps (X := (cxOf CX0 P w K mg base N qual scope f (.ref cc) A outer s H E).nox)).nox, ?_⟩
    exact (hbody (cxOf CX0 P w K mg base N qual scope f (.ref cc) A outer s H E).nox rfl rfl rfl rfl rfl rfl rfl rfl (Ctx.fn rfl sc.nd rfl rfl sc.kind (fun _ => rfl) PassesOwn.never) hr ds M _ h).run F (L2.start N vs) B H (start_rep r) x _ ⟨fun ρ M σ B' H' p s _ x => p _ B' H' s x .non, fun d M v B' H' p s r x => p v B' H' s x r, fun _ _ _ _ _ p => p.elim, fun _ _ _ _ _ p => p.elim⟩
/-- the law, its table by -/
def SLawT (T : Addr) (q : Str) : DA := fun ds M P => ∃ ns : List Int, ds = [.scr ns] ∧ M = [(T, .dic (tabφ q))] ∧ ∀ M', P (.bl true) M'
theorem lenLawT (T : Addr) (q : Str) : DLen (SLawT T q) 1 := fun ds M P ⟨ns, e, _⟩ => by rw [e] <;> rfl
theorem sqL_del {K : PySem.W.Frag} {H : Hp} {T a : Addr} {ps : Array Value} {xs : List V} (hT : H T = some (.tbl ps)) (h : SqL K H a xs) : SqL K (del H T) a xs := by
  have key : ∀ u, H a = some u → (∀ ps, u ≠ .tbl ps) → del H T a = some u := fun u e n => by
    rw [del_ne fun z => ?_]
    · exact e
    · rw [z, hT] at e
      exact n ps (Option.some.inj e).symm
  rcases h with (h | ⟨o, h⟩) | h
  · exact .inl (.inl (key _ h fun ps z => by cases z))
  · exact .inl (.inr ⟨o, key _ h fun ps z => by cases z⟩)
  · exact .inr h
theorem law_start {K : PySem.W.Frag} {H : Hp} {T a : Addr} {q : Str} {ns : List Int} (hT : H T = some (.tbl #[])) (hS : SqL K H a (ns.map V.int)) : spD K (SLawT T q) [.ref a] H (fun v _ => v = .bl true) (fun _ _ _ => False) := by
  refine ⟨[], del H T, [(T, .dic (tabφ q))], [.scr ns], .cons (.scr (sqL_del hT hS)) .nil, ⟨fun b u e => ?_, fun c hc => ?_, fun c hc => ?_, by simp⟩, ns, rfl, rfl, fun M' v B' H' _ _ r => by cases r; rfl⟩
  · by_cases z : b = T
    · rw [z, del_same] at e
      cases e
    · rwa [del_ne z] at e
  · have e : c = (T, MO.dic (tabφ q)) := by simpa using hc
    subst e
    exact ⟨_, hT, tab_rep ⟨#[], rfl, True.intro, fun p' cv h => by simp [codeAmong] at h⟩⟩
  · have e : c = (T, MO.dic (tabφ q)) := by simpa using hc
    subst e
    exact del_same
end Dl
namespace Dl
open PySem PySem.Spec PyProof.Rows L2
open LamX (CodeO TabB)
open NdefX (NF CellsAt NScope ncx startF envF)
/-! ### lambdas that are kept: their objects known, called later -/
/-- a lambda: its words, the cells that it captured, its code object, its defaults -/
structure LF where
  qual : Str
  params : Arguments
  body : Expr
  scope : Scope
  cl : List (Str × Addr)
  c : Addr
  dV : Value
abbrev LF.obj (F : LF) (doc pm ctv : Value) : Obj := { cls := .type "function", data := .func (PySem.W.kdv_fn "<lambda>" F.qual F.params (.expr F.body) F.scope F.cl F.dV doc pm (.ref F.c) ctv) }
def LamO (f : Addr) (F : LF) : HO := .ext fun h => ∃ doc pm ctv : Value, h.get? f = some (F.obj doc pm ctv)
/-- as a nested def without a text -/
abbrev LF.nf (F : LF) : NF := ⟨"<lambda>", F.qual, F.params, [], F.scope, F.cl, F.c⟩
theorem lamO_at {P : Program} {w : World} {H : Hp} {h : Heap} {f : Addr} {F : LF} (hok : HOk P w H h) (e : H f = some (LamO f F)) : ∃ doc pm ctv : Value, h.get? f = some (F.obj doc pm ctv) := (hok f _ e).1
section
variable {X : Cx} {pins : List (Addr × Obj)} {σ : L2.St} {H : Hp} {s : Shared}
theorem inv_lam {F : LF} {t' : Nat} {doc pm ctv : Value} (I : Inv X pins σ H s) : Inv X pins σ (L2.upd H s.heap.objs.size (LamO s.heap.objs.size F)) { s with heap := s.heap.push (F.obj doc pm ctv), toks := t' } := by
  have e := Heap.get?_push_size s.heap (o := F.obj doc pm ctv) rfl
  exact I.laid (a := s.heap.objs.size) (fun _ _ z => Heap.get?_push_of_some _ z) (Nat.le_refl _) ⟨⟨doc, pm, ctv, e⟩, ⟨_, e⟩, fun h1 h2 ⟨d, p, t, z⟩ st => ⟨d, p, t, st _ z⟩⟩
/-- the making of a lambda, its defaults made ahead: its code object is in the table, or is new and goes there -/
theorem lam_mk {c P : Addr} {params : Arguments} {body : Expr} {scope : Scope} {pos : Pos} {ps : Array Value} {dV : Value} {E : Value → Shared → Prop} {Q : Value → Shared → Prop} (Kn : Addr → Prop) (I : Inv X pins σ H s) (TB : TabB X.base X.mg c P) (hcode : X.env.code = .ref c)
    (hP : H P = some (.tbl ps)) (ht : TriplesOk ps.toList) (known : ∀ (p' : Pos) (cv : Value), codeAmong p' ps.toList = some cv → ∃ c', cv = .ref c' ∧ H c' = some (CodeO c' (X.env.qual ++ "<lambda>")) ∧ Kn c')
    (hfree : ∀ y ∈ scope.names, y.2 = .free → ∃ c, X.env.cells.lookup y.1 = some c)
    (fin : ∀ (f c' : Addr) (H1 : Hp) (s1 : Shared), ((H1 = H ∧ Kn c') ∨ ∃ more : Array Value, H c' = none ∧ P ≠ c' ∧ H1 = L2.upd (L2.upd H P (.tbl (ps ++ more))) c' (CodeO c' (X.env.qual ++ "<lambda>")) ∧ TriplesOk (ps ++ more).toList ∧
        ∀ (p' : Pos) (cv : Value), codeAmong p' (ps ++ more).toList = some cv → codeAmong p' ps.toList = some cv ∨ cv = .ref c') → H1 f = none → H1 c' = some (CodeO c' (X.env.qual ++ "<lambda>")) →
      Inv X pins σ (L2.upd H1 f (LamO f ⟨X.env.qual ++ "<lambda>", params, body, scope, cloFrom X.env.cells scope.names [], c', dV⟩)) s1 → Q (.ref f) s1) :
    wpAny (model X.prog X.w) X.A (makeTail "<lambda>" (X.env.qual ++ "<lambda>") params (.expr body) scope X.env dV .none none pos pos.line) Q E s := by
  have at_ := I.hok P _ hP
  rcases hc : codeAmong pos ps.toList with _ | cv
  · apply PySem.W.kdv_makeTail (mg := X.mg) (c := c) (P := P) (ps := ps) (closure_ok hfree) I.ok.glob (I.mod.glob.keeps I.bk) hcode (TB.code.keeps I.bk) at_ ht hc TB.gP (TB.bm.keeps I.bk)
    intro c' ctv doc h1 tk keep ge lt rec_ tab1
    obtain ⟨c2, oc, vs, t, e2, hoc, hd, hv⟩ := rec_
    cases e2
    have nc : H c' = none := I.hok.fresh ge
    have nPc : P ≠ c' := ne_of_none hP nc
    have J := LamX.inv_table (t' := tk) (more := #[rawInt pos.line, rawInt pos.col, .ref c']) (h' := h1) I hP (fun b o hb e => keep b o hb e) tab1 ge ⟨oc, vs, t, hoc, hd, hv⟩
    have tl : (ps ++ #[rawInt pos.line, rawInt pos.col, .ref c']).toList = ps.toList ++ [rawInt pos.line, rawInt pos.col, .ref c'] := by simp
    exact fin h1.objs.size c' _ _ (.inr ⟨_, nc, nPc, rfl, by rw [tl]; exact PySem.TriplesOk_snoc _ _ _ _ ht, fun p' cv h => LamX.among_app _ ht (by rw [tl] at h; exact h)⟩) (J.hok.fresh (Nat.le_refl _)) upd_same
      (inv_lam (t' := tk) (F := ⟨X.env.qual ++ "<lambda>", params, body, scope, cloFrom X.env.cells scope.names [], c', dV⟩) (doc := doc) (pm := (X.mg "__name__").getD .none) (ctv := ctv) J)
  · obtain ⟨c', e, hco, kn⟩ := known pos cv hc
    subst e
    apply PySem.W.kdv_makeTailHit (mg := X.mg) (c := c) (P := P) (ps := ps) (closure_ok hfree) I.ok.glob (I.mod.glob.keeps I.bk) hcode (TB.code.keeps I.bk) at_ ht hc (TB.bm.keeps I.bk)
    intro ctv doc h1 tk keep big
    have J : Inv X pins σ H { s with heap := h1, toks := tk } := I.kept keep
    exact fin h1.objs.size c' H _ (.inl ⟨rfl, kn⟩) (J.hok.fresh (Nat.le_refl _)) hco
      (inv_lam (t' := tk) (F := ⟨X.env.qual ++ "<lambda>", params, body, scope, cloFrom X.env.cells scope.names [], c', dV⟩) (doc := doc) (pm := (X.mg "__name__").getD .none) (ctv := ctv) J)
end
/-- the table of a code object, and what is known beside -/
def TabF (q : Str) (Fa : Hp → Prop) : Hp → HO → Prop := fun B o => tabφ q B o ∧ Fa B
section
variable {X : Cx} {N : List Str} {sc scope : Scope} {ρ : Rho} {M : Mem} {P : D → Mem → Prop} {pos p lpos : Pos}
/-- the memory behind the making -/
theorem tab_put {K : PySem.W.Frag} {B H H1 : Hp} {M Fr : Mem} {kt : Nat} {T f c' : Addr} {q : Str} {Fa Fb : Hp → Prop} {ps : Array Value} {O : HO} (hx : Holds K B (M ++ Fr) H) (hM : M[kt]? = some (T, .dic (TabF q Fa))) (hT : H T = some (.tbl ps)) (tok : TriplesOk ps.toList)
    (known : ∀ (p' : Pos) (cv : Value), codeAmong p' ps.toList = some cv → ∃ c, cv = .ref c ∧ B c = some (CodeO c q))
    (how : (H1 = H ∧ B c' = some (CodeO c' q)) ∨ ∃ more : Array Value, H c' = none ∧ T ≠ c' ∧ H1 = L2.upd (L2.upd H T (.tbl (ps ++ more))) c' (CodeO c' q) ∧ TriplesOk (ps ++ more).toList ∧
        ∀ (p' : Pos) (cv : Value), codeAmong p' (ps ++ more).toList = some cv → codeAmong p' ps.toList = some cv ∨ cv = .ref c')
    (nf : H1 f = none) (mono : ∀ B1 B2, Same B B1 → Same B1 B2 → Fb B1 → Fb B2) (hF : ∀ B2, Same B B2 → B2 f = some O → B2 c' = some (CodeO c' q) → Fb B2) :
    ∃ B2, Same B B2 ∧ B2 f = some O ∧ Holds K B2 (M.set kt (T, .dic (TabF q Fb)) ++ Fr) (L2.upd H1 f O) := by
  rcases how with ⟨e, hB⟩ | ⟨more, nc, nTc, e, tok2, old⟩
  · subst e
    have s2 : Same B (L2.upd B f O) := Same.upd (hx.free nf)
    have x1 := hx.new (o := O) nf
    have fT : T ≠ f := ne_of_none hT nf
    refine ⟨_, s2, upd_same, ?_⟩
    have y := x1.recell (at_app hM) (o := .tbl ps) (by rw [upd_ne fT]; exact hT) (mo' := .dic (TabF q Fb)) (.dic ⟨⟨ps, rfl, tok, fun p' cv h => ?_⟩, hF _ s2 upd_same (s2 _ _ hB)⟩ (fun B' s => ?_) fun xs z => by cases z)
    · rwa [set_app hM] at y
    · obtain ⟨c, e1, e2⟩ := known p' cv h
      exact ⟨c, e1, s2 _ _ e2⟩
    · exact ⟨⟨ps, rfl, tok, fun p' cv h => let ⟨c, e1, e2⟩ := known p' cv h; ⟨c, e1, s _ _ (s2 _ _ e2)⟩⟩, mono _ _ s2 s (hF _ s2 upd_same (s2 _ _ hB))⟩
  · subst e
    have nfc : f ≠ c' := fun z => by rw [z, upd_same] at nf; cases nf
    have nfT : f ≠ T := fun z => by rw [z, upd_ne nTc, upd_same] at nf; cases nf
    have nfH : H f = none := by rwa [upd_ne nfc, upd_ne nfT] at nf
    have s1 : Same B (L2.upd B c' (CodeO c' q)) := Same.upd (hx.free nc)
    have nfB : L2.upd B c' (CodeO c' q) f = none := by rw [upd_ne nfc]; exact hx.free nfH
    have s2 : Same (L2.upd B c' (CodeO c' q)) (L2.upd (L2.upd B c' (CodeO c' q)) f O) := Same.upd nfB
    have x1 := (hx.new (o := CodeO c' q) nc).new (o := O) (p := f) (by rw [upd_ne nfc]; exact nfH)
    have kn2 : ∀ (p' : Pos) (cv : Value), codeAmong p' (ps ++ more).toList = some cv → ∃ c, cv = .ref c ∧ L2.upd (L2.upd B c' (CodeO c' q)) f O c = some (CodeO c q) := fun p' cv h => by
      rcases old p' cv h with z | z
      · obtain ⟨c, e1, e2⟩ := known p' cv z
        exact ⟨c, e1, s2 _ _ (s1 _ _ e2)⟩
      · exact ⟨c', z, s2 _ _ upd_same⟩
    have hf2 := hF _ (s1.trans s2) upd_same (s2 _ _ upd_same)
    refine ⟨_, s1.trans s2, upd_same, ?_⟩
    have y := x1.put (at_app hM) (o := .tbl (ps ++ more)) (mo' := .dic (TabF q Fb)) (.dic ⟨⟨ps ++ more, rfl, tok2, kn2⟩, hf2⟩ (fun B' s => ⟨⟨ps ++ more, rfl, tok2, fun p' cv h => let ⟨c, e1, e2⟩ := kn2 p' cv h; ⟨c, e1, s _ _ e2⟩⟩, mono _ _ (s1.trans s2) s hf2⟩) fun xs z => by cases z)
    rw [set_app hM, upd_comm (Ne.symm nfT.symm), upd_comm (Ne.symm nTc)] at y
    exact y
/-- what is known of a lambda just made -/
def Made (f c' : Addr) (F : LF) : Hp → Prop := fun B => B f = some (LamO f F) ∧ B c' = some (CodeO c' F.qual)
theorem Made.mono {f c' : Addr} {F : LF} {B B' : Hp} (s : Same B B') (h : Made f c' F B) : Made f c' F B' := ⟨s _ _ h.1, s _ _ h.2⟩
/-- a lambda -/
theorem EM.mkLam {kt : Nat} {cc T : Addr} {Fa : Hp → Prop} {params : Arguments} {body : Expr} (TB : TabB X.base X.mg cc T) (hcode : X.env.code = .ref cc) (hM : M[kt]? = some (T, .dic (TabF (X.env.qual ++ "<lambda>") Fa)))
    (hfr : ∀ y ∈ scope.names, y.2 = .free → X.env.scope.names.lookup y.1 = some .cell ∨ X.env.scope.names.lookup y.1 = some .free) (hdef : defaultsOf params X.env = ([], []))
    (h : ∀ f c' : Addr, P (.raw (.ref f)) (M.set kt (T, .dic (TabF (X.env.qual ++ "<lambda>") fun B => Fa B ∧ Made f c' ⟨X.env.qual ++ "<lambda>", params, body, scope, cloFrom X.env.cells scope.names [], c', .none⟩ B)))) : EM X (.Lambda params body scope lpos) ρ M P := ⟨fun Fr σ B H hρ hx Q q pins s I => by
  obtain ⟨o, hT, rT, nT⟩ := hx.at (at_app hM)
  cases rT with
  | dic φ0 mono _ =>
  obtain ⟨⟨ps, eo, tok, known⟩, fa⟩ := φ0
  subst eo
  refine PySem.W.kla_eval hdef ?_
  rw [makeFunction_eq]
  simp only [List.zip_nil_right, List.filterMap_nil, List.isEmpty_nil, if_true, pure_bind]
  refine lam_mk (fun c' => B c' = some (CodeO c' (X.env.qual ++ "<lambda>"))) I TB hcode hT tok (fun p' cv h => let ⟨c', e1, e2⟩ := known p' cv h; ⟨c', e1, hx.fr _ _ e2, e2⟩) (fun y hy e => (hfr y hy e).elim (fun z => I.ok.has _ (.inl z)) fun z => I.ok.has _ (.inr z)) fun f c' H1 s1 how nf hco J => ?_
  obtain ⟨B2, sB, hB2, hx2⟩ := tab_put (Fb := fun B => Fa B ∧ Made f c' ⟨X.env.qual ++ "<lambda>", params, body, scope, cloFrom X.env.cells scope.names [], c', .none⟩ B) hx hM hT tok known how nf (fun B1 B2 s1 s2 ⟨a, b⟩ => ⟨(mono B2 (s1.trans s2)).2, b.mono s2⟩) fun B2 s a b => ⟨(mono B2 s).2, a, b⟩
  exact ⟨.ref f, _, J, rfl, q _ _ _ B2 _ (h f c') sB hx2 (.raw _)⟩⟩
/-- a lambda with one parameter, which has a whole number as its default -/
theorem EM.mkLamD {kt : Nat} {cc T : Addr} {Fa : Hp → Prop} {params : Arguments} {body : Expr} {i : Int} {j : Nat} {p0 : Pos} (TB : TabB X.base X.mg cc T) (hcode : X.env.code = .ref cc) (hM : M[kt]? = some (T, .dic (TabF (X.env.qual ++ "<lambda>") Fa)))
    (hfr : ∀ y ∈ scope.names, y.2 = .free → X.env.scope.names.lookup y.1 = some .cell ∨ X.env.scope.names.lookup y.1 = some .free) (hdf : params.defaults = [.Constant (.int i) j p0]) (hk0 : params.kw_defaults = [])
    (h : ∀ f c' t : Addr, P (.raw (.ref f)) (M.set kt (T, .dic (TabF (X.env.qual ++ "<lambda>") fun B => Fa B ∧ Made f c' ⟨X.env.qual ++ "<lambda>", params, body, scope, cloFrom X.env.cells scope.names [], c', .ref t⟩ B ∧ B t = some (.tup [.int i]))))) : EM X (.Lambda params body scope lpos) ρ M P := ⟨fun Fr σ B H hρ hx Q q pins s I => by
  refine PySem.W.kdv_lam (by rw [hdf] <;> rfl) hk0 ?_
  rw [hdf]
  refine PySem.W.kdv_all1 (wpAny_mono ((pe_int (X := X) (pos := p0) (j := j)).run pins s σ H (fun v H1 => v = .int i ∧ H1 = H) I ⟨rfl, rfl⟩) (fun u s1 ⟨v, H1, I1, r1, e1, e2⟩ => PySem.W.kdv_all0 ?_) fun _ _ z => z)
  subst e1 e2
  rw [makeFunction_eq]
  simp only [List.zip_nil_right, List.filterMap_nil, List.isEmpty_nil, List.isEmpty_cons, Bool.false_eq_true, if_false, if_true, pure_bind]
  refine wpAny_bind (wpAny_newTextTuple ?_)
  have eT := Heap.get?_push_size s1.heap (o := { cls := .type "tuple", data := .seq [u].toArray }) rfl
  have I2 : Inv X pins σ (L2.upd H1 s1.heap.objs.size (.tup [.int i])) { s1 with heap := s1.heap.push { cls := .type "tuple", data := .seq [u].toArray } } := I1.laid (t' := s1.toks) (a := s1.heap.objs.size) (fun _ _ z => Heap.get?_push_of_some _ z) (Nat.le_refl _) ⟨by show 1 ≤ sizeLine; decide, [u], .cons r1 .nil, _, eT, rfl, _, rfl⟩
  have nt : H1 s1.heap.objs.size = none := I1.hok.fresh (Nat.le_refl _)
  generalize s1.heap.objs.size = t at I2 nt
  have sb : Same B (L2.upd B t (.tup [.int i])) := Same.upd (hx.free nt)
  have hx0 := hx.new (o := .tup [.int i]) nt
  obtain ⟨o, hT, rT, nT⟩ := hx0.at (at_app hM)
  cases rT with
  | dic φ0 mono _ =>
  obtain ⟨⟨ps, eo, tok, known⟩, fa⟩ := φ0
  subst eo
  refine lam_mk (fun c' => L2.upd B t (.tup [.int i]) c' = some (CodeO c' (X.env.qual ++ "<lambda>"))) I2 TB hcode hT tok (fun p' cv h => let ⟨c', e1, e2⟩ := known p' cv h; ⟨c', e1, hx0.fr _ _ e2, e2⟩) (fun y hy e => (hfr y hy e).elim (fun z => I.ok.has _ (.inl z)) fun z => I.ok.has _ (.inr z)) fun f c' H2 s2 how nf hco J => ?_
  obtain ⟨B2, sB, hB2, hx2⟩ := tab_put (Fb := fun B => Fa B ∧ Made f c' ⟨X.env.qual ++ "<lambda>", params, body, scope, cloFrom X.env.cells scope.names [], c', .ref t⟩ B ∧ B t = some (.tup [.int i])) hx0 hM hT tok known how nf (fun B1 B2 s1 s2 ⟨a, b, c⟩ => ⟨(mono B2 (s1.trans s2)).2, b.mono s2, s2 _ _ c⟩) fun B2 s a b => ⟨(mono B2 s).2, ⟨a, b⟩, s _ _ upd_same⟩
  exact ⟨.ref f, _, J, rfl, q _ _ _ B2 _ (h f c' t) (sb.trans sB) hx2 (.raw _)⟩⟩
end
end Dl
namespace Dl
open PySem PySem.Spec PyProof.Rows L2
open LamX (CodeO TabB)
open NdefX (NF CellsAt NScope ncx startF envF)
/-! ### a kept lambda called -/
/-- how its parameters are bound at f(): there are none, or one that has a whole number as its default -/
def BindL (F : LF) (ps : List Str) (vs : List V) (B : Hp) : Prop :=
  (ps = [] ∧ vs = [] ∧ ∀ doc pm ctv : Value, bindArgs (PySem.W.kdv_fn "<lambda>" F.qual F.params (.expr F.body) F.scope F.cl F.dV doc pm (.ref F.c) ctv) ⟨[], []⟩ = pure []) ∨
  ∃ (a : Str) (i : Int) (t : Addr), ps = [a] ∧ vs = [.int i] ∧ F.dV = .ref t ∧ B t = some (.tup [.int i]) ∧ ∀ doc pm ctv : Value, ∃ k : Option (Array Value) → Sem (List (Str × Value)),
    bindArgs (PySem.W.kdv_fn "<lambda>" F.qual F.params (.expr F.body) F.scope F.cl F.dV doc pm (.ref F.c) ctv) ⟨[], []⟩ = seqItems? F.dV >>= k ∧ ∀ u : Value, k (some #[u]) = pure [(a, u)]
theorem BindL.mono {F : LF} {ps : List Str} {vs : List V} {B B' : Hp} (s : Same B B') : BindL F ps vs B → BindL F ps vs B'
  | .inl h => .inl h
  | .inr ⟨a, i, t, e1, e2, e3, e4, e5⟩ => .inr ⟨a, i, t, e1, e2, e3, s _ _ e4, e5⟩
theorem BindL.ok {P : Program} {w : World} {F : LF} {ps : List Str} {vs : List V} {H : Hp} {s : Shared} (h : BindL F ps vs H) (hok : HOk P w H s.heap) :
    ∃ us : List Value, Vals vs us ∧ vs.length = ps.length ∧ ∀ doc pm ctv : Value, BindsTo s (PySem.W.kdv_fn "<lambda>" F.qual F.params (.expr F.body) F.scope F.cl F.dV doc pm (.ref F.c) ctv) ⟨[], []⟩ (ps.zip us) := by
  rcases h with ⟨rfl, rfl, h⟩ | ⟨a, i, t, rfl, rfl, e3, e4, e5⟩
  · exact ⟨[], .nil, rfl, fun doc pm ctv => .of_eq (h doc pm ctv)⟩
  · obtain ⟨_, its, r, o, ho, hc, n, hd⟩ := hok t _ e4
    match its, r with
    | [u], .cons ru .nil =>
      refine ⟨[u], .cons ru .nil, rfl, fun doc pm ctv => ?_⟩
      obtain ⟨k, h1, h2⟩ := e5 doc pm ctv
      exact .of_defaults e3 ho hd h1 (h2 u)
section
variable {P : Program} {w : World} {K : PySem.W.Frag} {mg : Str → Option Value} {base : Heap} {N ps fr : List Str} {F : LF} {f : Addr} {A : Around} {outer : List Env} {s : Shared} {H : Hp} {vs : List V} {ws : List (Option V)} {k : Nat} {Q : VK} {E : XK}
/-- f(), by its body -/
theorem lam_run (S : NScope N ps fr F.scope) (hr : Room (k + 1) A) (e0 : Env0 P w K mg base A outer s H) (hf : H f = some (LamO f F)) (hc : H F.c = some (CodeO F.c F.qual)) (hb : BindL F ps vs H) (C : CellsAt F.cl fr ws s.heap H)
    (hbody : Room k (A.deeper (envF F.nf f s.heap.objs.size)) → WE (ncx (L2.CX P w) P w K mg base N F.nf f A outer s H E) F.body (startF N vs ws) H Q) :
    codeAny (model P w) A (.call (.ref f) ⟨[], []⟩) (CR (L2.CX P w) outer P w H s Q E) s := by
  obtain ⟨us, r, hl, hbt⟩ := hb.ok e0.hok
  have lim : s.heap.NoLimit := e0.mod.nolimit.keeps fun b o e => (e0.bs b o e).1
  obtain ⟨doc, pm, ctv, ho⟩ := lamO_at e0.hok hf
  refine PySem.W.kla_callFunE hr.depth ho rfl S.co S.gen rfl (NdefX.codeO_at e0.hok hc) (hbt doc pm ctv _ _ _ _ ?_)
  refine wpAny_newFunctionEnv S.nocell (fun ⟨n, _⟩ hy => S.par n (List.of_mem_zip hy).1) (fun h₁ hns hsb => ⟨lim.fresh _ hsb, ?_⟩) S.kind
  show codeAny _ _ (.expr F.body (envF F.nf f s.heap.objs.size)) _ _
  have kp : ∀ b o, s.heap.get? b = some o → h₁.get? b = some o := fun b o e => hsb.extBut b o (Nat.ne_of_lt (Heap.lt_size e)) (Heap.get?_push_of_some _ e)
  have J := NdefX.inv_startN (CX := L2.CX P w) (E := E) (F := F.nf) (f := f) (tk := s.toks + (ps.zip us).length) S hr.hd e0 hl r C hns kp
  refine PySem.W.kla_codeExpr (wpAny_mono (hbody (hr.deeper _) [] _ J) (fun v s' hq => ?_) fun e s' hq => hq)
  obtain ⟨v', H', J', rv, q⟩ := hq
  exact ⟨v', H', J'.os, J'.bare, J'.base, J'.hok, rv, q⟩
end
/-- what the cells held when the frame began they hold still -/
theorem cells_later {X : Cx} {pins : List (Addr × Obj)} {σ : L2.St} {H : Hp} {s : Shared} {cl : List (Str × Addr)} {fr : List Str} {ws : List (Option V)} (C : CellsAt cl fr ws X.s_0.heap X.H_0) (hx : ∀ y c, cl.lookup y = some c → c ∉ X.ex) (I : Inv X pins σ H s) : CellsAt cl fr ws s.heap H := by
  have kp : ∀ y c, cl.lookup y = some c → ∀ v, X.s_0.heap.IsCell c v → s.heap.IsCell c v := fun y c e v ⟨o, ho, hd⟩ => by
    obtain ⟨sl, z⟩ := I.base.any ho (C.all y c e).1 (hx y c e)
    exact ⟨_, z, hd⟩
  refine ⟨C.len, fun y c e => ?_, C.inj, fun i y e => ?_⟩
  · obtain ⟨n, v, z⟩ := C.all y c e
    obtain ⟨o, ho, hd⟩ := z
    exact ⟨I.base.free c o ho n (hx y c e), v, kp y c e v ⟨o, ho, hd⟩⟩
  · obtain ⟨c, hc, hv⟩ := C.has i y e
    exact ⟨c, hc, fun v ev => let ⟨u, r, z⟩ := hv v ev; ⟨u, r, kp y c hc _ z⟩⟩
/-- x(), in the def that got the lambda, entered at s with H -/
theorem lam_in {P : Program} {w : World} {K : PySem.W.Frag} {mg : Str → Option Value} {base : Heap} {N ps fr Ng : List Str} {F : LF} {f g : Addr} {A : Around} {outer : List Env} {s : Shared} {H : Hp} {vs : List V} {ws : List (Option V)} {k i : Nat} {CXg : CXT} {Eg E : XK} {qg a : Str} {sg : Scope} {cdg : Value} {pn : List (Addr × Obj)} {xe : Value → Shared → Prop} {W : WX} {p1 p2 : Pos}
    (S : NScope N ps fr F.scope) (C : CellsAt F.cl fr ws s.heap H)
    (tk : Takes ((cxOf CXg P w K mg base Ng qg sg g cdg A outer s H Eg).tr pn xe) W) (hW : ∀ cls d σ' H', E cls d H' → W cls d σ' H') (hr : Room (k + 1) (A.deeper (envOfC qg sg s.heap.objs.size g cdg)))
    (hN : Ng[i]? = some a) (hv : Vis sg a) (hd : (a == ("__debug__" : Str)) = false) (hcd : (a == ("__classdict__" : Str)) = false) :
    PE ((cxOf CXg P w K mg base Ng qg sg g cdg A outer s H Eg).tr pn xe) (.Call (.Name a p1) [] [] p2)
      (fun σZ HZ Q => σZ[i]? = some (some (.ref f)) ∧ HZ f = some (LamO f F) ∧ HZ F.c = some (CodeO F.c F.qual) ∧ BindL F ps vs HZ ∧ ∀ A' outer' s', Room k (A'.deeper (envF F.nf f s'.heap.objs.size)) → WE (ncx (L2.CX P w) P w K mg base N F.nf f A' outer' s' HZ E) F.body (startF N vs ws) HZ Q) := by
  refine ⟨fun pinsZ sZ σZ HZ Q IZ ⟨hs, hf, hc, hb, ht⟩ => ?_⟩
  refine wpAny_Call_Name_kw (thn ((pe_var (pos := p1) (i := i) hN hv hd hcd).run pinsZ sZ σZ HZ (fun v H1 => v = .ref f ∧ H1 = HZ) IZ ⟨.ref f, hs, rfl, rfl⟩) fun u s1 ⟨v, H1, I1, r1, e1, e2⟩ => ?_)
  subst e1 e2
  obtain rfl : u = Value.ref f := r1
  obtain ⟨doc, pm, ctv, ho⟩ := lamO_at I1.hok hf
  refine PySem.W.callWith_F0 (first := []) ⟨_, _, _, _, ho⟩ ?_
  have C1 : CellsAt F.cl fr ws s1.heap H1 := cells_later (X := (cxOf CXg P w K mg base Ng qg sg g cdg A outer s H Eg).tr pn xe) C (fun y c _ z => nomatch (show c ∈ ([] : List Addr) from z)) I1
  have rc := lam_run (E := E) (Q := Q) S hr I1.env0 hf hc hb C1 fun hr' => ht _ _ _ hr'
  have hx : Passes (L2.CX P w) ((cxOf CXg P w K mg base Ng qg sg g cdg A outer s H Eg).tr pn xe) E := passes_call tk hW
  refine wpAny_call (codeAny_mono rc fun r s' hq => ?_)
  cases r with
  | error e => exact hx pinsZ σZ H1 s1 e s' I1 hq
  | ok fl =>
    cases fl with
    | ret u => exact I1.after hq
    | next => exact hq.elim
    | brk => exact hq.elim
    | cont => exact hq.elim
end Dl
namespace Dl
open PySem PySem.Spec PyProof.Rows L2
open LamX (CodeO TabB)
open NdefX (NF CellsAt NScope ncx startF envF)
/-! ### tracked things of one's own, left out for a while -/
noncomputable def cut (H : Hp) (C : Addr → Prop) : Hp := fun a => open Classical in if C a then none else H a
/-- .. and in again -/
noncomputable def uncut (H H' : Hp) (C : Addr → Prop) : Hp := fun a => open Classical in if C a then H a else H' a
section
variable {H H' : Hp} {C : Addr → Prop} {a : Addr}
theorem cut_at (h : C a) : cut H C a = none := by unfold cut; rw [if_pos h]
theorem cut_ne (h : ¬ C a) : cut H C a = H a := by unfold cut; rw [if_neg h]
theorem uncut_at (h : C a) : uncut H H' C a = H a := by unfold uncut; rw [if_pos h]
theorem uncut_ne (h : ¬ C a) : uncut H H' C a = H' a := by unfold uncut; rw [if_neg h]
theorem cut_none (h : H a = none) : cut H C a = none := by
  by_cases c : C a
  · exact cut_at c
  · rw [cut_ne c, h]
theorem same_cut : Same (cut H C) H := fun b u e => by
  by_cases c : C b
  · rw [cut_at c] at e; cases e
  · rwa [cut_ne c] at e
/-- what is cut is of one's own kind -/
def Ours (H : Hp) (C : Addr → Prop) : Prop := ∀ c, C c → ∃ φ, H c = some (.ext φ)
theorem ours_ne (h : Ours H C) {o : HO} (e : H a = some o) (n : ∀ φ, o ≠ .ext φ) : ¬ C a := fun c => by
  obtain ⟨φ, z⟩ := h a c
  rw [e] at z
  exact n φ (Option.some.inj z)
end
section
variable {P : Program} {w : World} {K : PySem.W.Frag} {mg : Str → Option Value} {base : Heap} {A : Around} {outer : List Env} {s : Shared} {H B : Hp} {C : Addr → Prop}
theorem hok_cut {h : Heap} (hC : Ours H C) (x : HOk P w H h) : HOk P w (cut H C) h := fun a o e => by
  have e2 := same_cut _ _ e
  refine (x a o e2).stay (fun b u _ z => z) (fun b z => ?_) fun b xs z => ?_
  · rw [cut_ne (ours_ne hC z fun φ z => by cases z)]; exact z
  · rw [cut_ne (ours_ne hC z fun φ z => by cases z)]; exact z
theorem env0_cut (hC : Ours H C) (e : Env0 P w K mg base A outer s H) : Env0 P w K mg base A outer s (cut H C) :=
  ⟨e.frames, e.mod, fun b o z => ⟨(e.bs b o z).1, cut_none (e.bs b o z).2⟩, e.bsz, e.funs, fun b z => cut_none (e.frf b z), hok_cut hC e.hok, e.bare⟩
/-- the end of a call that knew nothing of them -/
theorem ce_uncut {Q Q' : VK} {u : Value} {s' : Shared} (hC : Ours H C) (e0 : Env0 P w K mg base A outer s H) (h : CE outer P w (cut H C) s Q' u s') (q : ∀ v H', Same (cut H C) H' ∨ True → Q' v H' → (∀ c, C c → H' c = none) → Q v (uncut H H' C)) : CE outer P w H s Q u s' := by
  obtain ⟨v, H', os, bare, un, hok, r, qv⟩ := h
  have there : ∀ c, C c → ∃ φ o, H c = some (.ext φ) ∧ s.heap.get? c = some o := fun c hc => by
    obtain ⟨φ, z⟩ := hC c hc
    obtain ⟨_, ⟨o, e⟩, _⟩ := e0.hok c _ z
    exact ⟨φ, o, z, e⟩
  have nC : ∀ c, C c → H' c = none := fun c hc => by
    obtain ⟨φ, o, _, e⟩ := there c hc
    exact un.free c o e (cut_at hc) (by simp)
  have key : ∀ {b : Addr} {o : HO}, H b = some o → (∀ φ, o ≠ .ext φ) → cut H C b = some o ∧ uncut H H' C b = H' b := fun {b o} e n => by
    have c := ours_ne hC e n
    exact ⟨by rw [cut_ne c, e], uncut_ne c⟩
  refine ⟨v, uncut H H' C, os, bare, ⟨fun b o e n => un.keep b o e (cut_none n), fun b o e n => un.slot b o e (cut_none n), fun b o e n x => ?_, un.there, fun b xs e => ?_, fun b o x e => ?_, fun b ps e => ?_⟩, fun b o e => ?_, r, q v H' (.inr trivial) qv nC⟩
  · by_cases c : C b
    · rw [uncut_at c, n]
    · rw [uncut_ne c]; exact un.free b o e (cut_none n) x
  · obtain ⟨k1, k2⟩ := key e fun φ z => by cases z
    rw [k2]; exact un.tups b xs k1
  · obtain ⟨k1, k2⟩ := key e fun φ z => by cases z
    rw [k2]; exact un.frzs b o x k1
  · obtain ⟨k1, k2⟩ := key e fun φ z => by cases z
    rw [k2]; exact un.tbls b ps k1
  · by_cases c : C b
    · rw [uncut_at c] at e
      obtain ⟨φ, z⟩ := hC b c
      rw [z] at e
      cases e
      obtain ⟨p1, ⟨ob, p2⟩, p3⟩ := e0.hok b _ z
      have nf : b ∉ frs outer := fun m => by
        have := e0.frf b m
        rw [z] at this
        cases this
      have p4 := un.keep b ob p2 (cut_at c) nf (by simp)
      exact ⟨p3 _ _ p1 fun o' e' => by rw [p2] at e'; cases e'; exact p4, ⟨ob, p4⟩, p3⟩
    · rw [uncut_ne c] at e
      refine (hok b o e).stay (fun b u _ z => z) (fun b' z => ?_) fun b' xs z => ?_
      · have c' : ¬ C b' := fun m => by rw [nC b' m] at z; cases z
        rw [uncut_ne c']; exact z
      · have c' : ¬ C b' := fun m => by rw [nC b' m] at z; cases z
        rw [uncut_ne c']; exact z
theorem same_uncut {H' : Hp} (s1 : Same (cut H C) H') : Same H (uncut H H' C) := fun b o e => by
  by_cases c : C b
  · rw [uncut_at c, e]
  · rw [uncut_ne c]; exact s1 b o (by rw [cut_ne c, e])
theorem same_uncut' {H' : Hp} (n : ∀ c, C c → H' c = none) : Same H' (uncut H H' C) := fun b o e => by
  have c : ¬ C b := fun m => by rw [n b m] at e; cases e
  rw [uncut_ne c, e]
/-! data doesn't lean on them -/
theorem TupAt.cut {a : Addr} {xs : List V} (hC : ∀ c, C c → ∀ o, B c = some o → ∃ φ, o = .ext φ) (h : TupAt K B a xs) : TupAt K (cut B C) a xs := by
  rcases h with h | h
  · refine .inl ?_
    rw [cut_ne fun c => ?_, h]
    obtain ⟨φ, z⟩ := hC a c _ h
    cases z
  · exact .inr h
mutual
theorem Rep.cut (hC : ∀ c, C c → ∀ o, B c = some o → ∃ φ, o = .ext φ) : ∀ {v : V} {d : D}, Rep K B v d → Rep K (Dl.cut B C) v d
  | _, _, .non => .non
  | _, _, .bl b => .bl b
  | _, _, .int i => .int i
  | _, _, .str x => .str x
  | _, _, .tup h r => .tup (h.cut hC) (Reps.cut hC r)
  | _, _, .lst (a := a) h r => .lst (by
      rw [cut_ne fun c => ?_, h]
      obtain ⟨φ, z⟩ := hC a c _ h
      cases z) (Reps.cut hC r)
  | _, _, .scr (a := a) h => .scr (by
      have key : ∀ u, B a = some u → (∀ φ, u ≠ .ext φ) → Dl.cut B C a = some u := fun u e n => by
        rw [cut_ne fun c => ?_, e]
        obtain ⟨φ, z⟩ := hC a c _ e
        exact n φ z
      rcases h with (h | ⟨o, h⟩) | h
      · exact .inl (.inl (key _ h fun φ z => by cases z))
      · exact .inl (.inr ⟨o, key _ h fun φ z => by cases z⟩)
      · exact .inr h)
  | _, _, .raw v => .raw v
theorem Reps.cut (hC : ∀ c, C c → ∀ o, B c = some o → ∃ φ, o = .ext φ) : ∀ {vs : List V} {ds : List D}, Reps K B vs ds → Reps K (Dl.cut B C) vs ds
  | _, _, .nil => .nil
  | _, _, .cons h r => .cons (Rep.cut hC h) (Reps.cut hC r)
end
theorem EnvRep.cut {σ : L2.St} {ρ : Rho} (hC : ∀ c, C c → ∀ o, B c = some o → ∃ φ, o = .ext φ) (h : EnvRep K B σ ρ) : EnvRep K (Dl.cut B C) σ ρ :=
  ⟨h.len, fun i d e => let ⟨v, h1, h2⟩ := h.at' i d e; ⟨v, h1, h2.cut hC⟩⟩
/-- a heap that only grew -/
theorem Holds.grown {M : Mem} {H1 : Hp} (x : Holds K B M H) (s1 : Same H H1) : Holds K B M H1 :=
  ⟨x.fr.trans s1, fun c hc => let ⟨o, h1, h2⟩ := x.mem c hc; ⟨o, s1 _ _ h1, h2⟩, x.out, x.nd⟩
theorem RepF.scal {B' : Hp} : ∀ {vs : List (Str × V)} {fs : List (Str × D)}, (∀ p ∈ fs, p.2.scal = true) → RepF K B vs fs → RepF K B' vs fs
  | _, _, _, .nil => .nil
  | _, _, h, .cons r t => .cons (Rep.scal (h _ List.mem_cons_self) r) (RepF.scal (fun p hp => h p (List.mem_cons_of_mem _ hp)) t)
end
end Dl
namespace Dl
open PySem PySem.Spec PyProof.Rows L2
open LamX (CodeO TabB)
open NdefX (NF CellsAt NScope ncx startF envF)
/-! ### a def of the text that calls the lambda that it got -/
/-- what the def must know of the lambda, at the lambda's own object -/
def LamKn (K : PySem.W.Frag) (f : Addr) (F : LF) (N ps : List Str) (vs : List V) (ws : List (Option V)) (ρl : Rho) : Hp → HO → Prop := fun B o =>
  o = LamO f F ∧ B F.c = some (CodeO F.c F.qual) ∧ BindL F ps vs B ∧ EnvRep K B (startF N vs ws) ρl
theorem lamKn_rep {K : PySem.W.Frag} {B : Hp} {f : Addr} {F : LF} {N ps : List Str} {vs : List V} {ws : List (Option V)} {ρl : Rho} {o : HO} (h : LamKn K f F N ps vs ws ρl B o) : RepO K B (.dic (LamKn K f F N ps vs ws ρl)) o :=
  .dic h (fun B' s => ⟨h.1, s _ _ h.2.1, h.2.2.1.mono s, h.2.2.2.mono s⟩) fun xs z => by
    rw [h.1] at z
    cases z
theorem go_word {X : Cx} {pins : List (Addr × Obj)} {σ : L2.St} {H : Hp} {s : Shared} {x a : Str} {st : Stmt} {g f : Addr} {fd : FuncData} {Ng N ps fr : List Str} {k : Nat} {F : LF} {vs : List V} {ws : List (Option V)} {ρl : Rho} {C : Addr → Prop}
    (I : Inv X pins σ H s) (Fx : Fun X.K x x st g fd) (Sg : FnScope Ng [a] (defScope st)) (hb : L2.Binds X.K fd [a] []) (hr : Room (k + 2) X.A) (hC : Ours H C)
    (S : NScope N ps fr F.scope) (hf : cut H C f = some (LamO f F)) (hc : cut H C F.c = some (CodeO F.c F.qual)) (hcf : F.c ≠ f) (hbl : BindL F ps vs (cut H C)) (Cl : CellsAt F.cl fr ws s.heap (cut H C))
    (hρ : EnvRep X.K (cut H C) (startF N vs ws) ρl) (Re : Er → Prop) (Nm : Prop) (scal : ∀ y, Re y → ∀ p ∈ y.fs, p.2.scal = true)
    (hbody : ∀ A outer s' H' E, Room k (A.deeper (envF F.nf f s'.heap.objs.size)) → EMx (ncx (L2.CX X.prog X.w) X.prog X.w X.K X.mg X.base N F.nf f A outer s' H' E) F.body ρl [] (fun y _ M' => M' = [] ∧ Re y) (fun _ M' => M' = [] ∧ Nm))
    (Res : D → Prop)
    (hword : ∀ (Z : Cx) (M : Mem), Z.prog = X.prog → Z.w = X.w → Z.K = X.K → Z.mg = X.mg → Z.base = X.base → Z.stack = Z.env :: Z.outer → Z.env.frame = some Z.env.locals → Ctx Z Ng (defScope st) → Room (k + 1) Z.A →
      (∀ pn xe p1 p2, EMx (Z.tr pn xe) (.Call (.Name a p1) [] [] p2) (startD Ng [.raw (.ref f)]) M (fun y ρ' M' => ρ' = none_ Ng ∧ M' = M ∧ Re y) (fun _ M' => M' = M ∧ Nm)) → SM Z (defBody st) (startD Ng [.raw (.ref f)]) M { nx := fun _ _ => False, rt := fun d M' => M' = M ∧ Res d })
    (hN0 : Ng[0]? = some a) (hva : visB (defScope st) a = true) (hda : (a == ("__debug__" : Str)) = false) (hca : (a == ("__classdict__" : Str)) = false)
    (Q : VK) (q : ∀ d v Hn, Res d → Same H Hn → Rep X.K Hn v d → Q v Hn) : wpAny (model X.prog X.w) X.A (call (.ref g) [.ref f]) (EP X pins σ Q) X.xe s := by
  have e0 := env0_cut hC I.env0
  have ours2 : ∀ c, c = f → ∀ o, cut H C c = some o → ∃ φ, o = .ext φ := fun c e o z => by
    subst e
    rw [hf] at z
    exact ⟨_, (Option.some.inj z).symm⟩
  have hM : Holds X.K (cut (cut H C) (· = f)) ([(f, MO.dic (LamKn X.K f F N ps vs ws ρl))] ++ []) (cut H C) := by
    refine ⟨same_cut, fun c hc2 => ?_, fun c hc2 => ?_, by simp⟩
    · have e : c = (f, MO.dic (LamKn X.K f F N ps vs ws ρl)) := by simpa using hc2
      subst e
      refine ⟨_, hf, lamKn_rep ⟨rfl, by rw [cut_ne (C := (· = f)) hcf, hc], ?_, hρ.cut ours2⟩⟩
      rcases hbl with h | ⟨a', i, t, e1, e2, e3, e4, e5⟩
      · exact .inl h
      · refine .inr ⟨a', i, t, e1, e2, e3, ?_, e5⟩
        rw [cut_ne (C := (· = f)) fun z => ?_, e4]
        rw [z, hf] at e4
        cases e4
    · have e : c = (f, MO.dic (LamKn X.K f F N ps vs ws ρl)) := by simpa using hc2
      subst e
      exact cut_at rfl
  obtain ⟨oc, od, kV, doc, pm', an, cdg, ct, osl, ef, lk, hcg⟩ := Fx.ex
  subst ef
  have rc : codeAny (model X.prog X.w) X.A (.call (.ref g) ⟨[.ref f], []⟩) (CR CX0 X.stack X.prog X.w (cut H C) s (fun v H' => ∃ d, Res d ∧ Same (cut H C) H' ∧ Rep X.K H' v d) E0) s := by
    refine LamX.run_ofS (CX := CX0) (N := Ng) (ps := [a]) (us := [.ref f]) (vs := [.ref f]) lk hcg Sg hr e0 (hb s [.ref f] I.kIn rfl) (.cons rfl .nil) rfl fun hr' => ?_
    refine ⟨_, (WSs.ps (X := (cxOf CX0 X.prog X.w X.K X.mg X.base Ng x (defScope st) g cdg X.A X.stack s (cut H C) E0).nox)).nox, ?_⟩
    refine (hword (cxOf CX0 X.prog X.w X.K X.mg X.base Ng x (defScope st) g cdg X.A X.stack s (cut H C) E0).nox [(f, MO.dic (LamKn X.K f F N ps vs ws ρl))] rfl rfl rfl rfl rfl rfl rfl (Ctx.fn rfl Sg.nd rfl rfl Sg.kind (fun _ => rfl) PassesOwn.never) hr' (fun pn xe p1 p2 => ⟨fun W tk F' σZ B' HZ hrZ hxZ l Q' q' => ?_⟩)).run
      [] (L2.start Ng [.ref f]) (cut (cut H C) (· = f)) (cut H C) (start_rep (.cons (.raw _) .nil)) hM _ ⟨fun _ _ _ _ _ p => p.elim, fun d M v B' H' p s r x => ?_, fun _ _ _ _ _ p => p.elim, fun _ _ _ _ _ p => p.elim⟩
    rotate_left
    · obtain ⟨rfl, p⟩ := p
      refine ⟨d, p, fun b o e => ?_, r.mono x.fr⟩
      by_cases hbf : b = f
      · obtain ⟨o2, h1, h2, _⟩ := x.at (k := 0) rfl
        cases h2 with
        | dic kn _ _ =>
        rw [hbf, hf] at e
        rw [hbf, ← e, h1, kn.1]
      · exact x.fr _ _ (s _ _ (by rw [cut_ne (C := (· = f)) hbf]; exact e))
    obtain ⟨o, h1, h2, h3⟩ := hxZ.at (k := 0) rfl
    cases h2 with
    | dic kn _ _ =>
    obtain ⟨rfl, kc, kb, ke⟩ := kn
    refine WE.of (lam_in (CXg := CX0) (Eg := E0) (Ng := Ng) (i := 0) (vs := vs) (ws := ws) (ps := ps) (N := N) (E := fun cls d H' => ∀ σ' : L2.St, σ'.length = Ng.length → W cls d σ' H') (W := fun cls d σ H => σ.length = Ng.length → W cls d σ H) S Cl (takes_len tk) (fun cls d σ' H' h hl => h σ' hl) hr' hN0 (vis_of hva) hda hca) ⟨?_, h1, hxZ.fr _ _ kc, kb.mono hxZ.fr, fun A' outer' s1 hr2 => ?_⟩
    · obtain ⟨v, w1, w2⟩ := hrZ.at' 0 (.raw (.ref f)) rfl
      cases w2
      exact w1
    · refine (hbody A' outer' s1 HZ _ hr2).run (fun cls d _ H => ∀ σ' : L2.St, σ'.length = Ng.length → W cls d σ' H) (takes_of rfl rfl rfl rfl) [] (startF N vs ws) HZ HZ (ke.mono hxZ.fr) ⟨Same.refl _, (fun _ h => nomatch h), (fun _ h => nomatch h), List.nodup_nil⟩ (fun y ρ1 M' cls d σ1 B2 H2 hR s2 _ x2 hrx σ' hl => ?_) Q' fun d M' v B2 Hn hP s2 x2 r2 => ?_
      · obtain ⟨rfl, hRe⟩ := hR
        have sH : Same HZ H2 := s2.trans x2.fr
        refine l y (none_ Ng) _ cls d σ' B' H2 ⟨rfl, rfl, hRe⟩ (Same.refl _) (none_rep hl) ?_ hrx
        have base := hxZ.grown sH
        cases d with
        | none => exact base
        | some dd =>
          obtain ⟨o, m1, m2⟩ := x2.mem (dd, .dic (xphi X.K y.fs)) List.mem_cons_self
          have nB := x2.out (dd, .dic (xphi X.K y.fs)) List.mem_cons_self
          have nZ : HZ dd = none := s2.free nB
          cases m2 with
          | dic hx2 hm2 hn2 =>
          obtain ⟨vs2, eo, rf⟩ := hx2
          have rf2 : RepF X.K B' vs2 y.fs := RepF.scal (scal y hRe) rf
          refine ⟨base.fr, fun c hc2 => ?_, fun c hc2 => ?_, ?_⟩
          · rcases List.mem_cons.mp hc2 with e | hc2
            · subst e
              exact ⟨o, m1, .dic ⟨vs2, eo, rf2⟩ (fun B3 s3 => ⟨vs2, eo, rf2.mono s3⟩) hn2⟩
            · exact base.mem c hc2
          · rcases List.mem_cons.mp hc2 with e | hc2
            · subst e
              exact hxZ.fr.free nZ
            · exact base.out c hc2
          · show (dd :: List.map (fun c : Addr × MO => c.1) _).Nodup
            refine List.nodup_cons.mpr ⟨fun hm => ?_, base.nd⟩
            obtain ⟨c, hc2, e⟩ := List.mem_map.mp hm
            obtain ⟨o2, n1, _⟩ := hxZ.mem c hc2
            rw [e, nZ] at n1
            cases n1
      · obtain ⟨rfl, hNm⟩ := hP
        exact q' (.raw v) _ v B' Hn ⟨rfl, hNm⟩ (Same.refl _) (hxZ.grown (s2.trans x2.fr)) (.raw v)
  refine wpAny_call (codeAny_mono rc fun r s2 hq => ?_)
  cases r with
  | error e => exact (show False from hq).elim
  | ok fl =>
    cases fl with
    | ret u => exact I.after (ce_uncut hC I.env0 hq fun v H' _ ⟨d, h1, h2, h3⟩ n => q d v _ h1 (same_uncut h2) (h3.mono (same_uncut' n)))
    | next => exact False.elim hq
    | brk => exact False.elim hq
    | cont => exact False.elim hq
/-! ### .. as an expression -/
theorem Reps.scal {K : PySem.W.Frag} {B B' : Hp} : ∀ {vs : List V} {l : List D}, (∀ d ∈ l, d.scal = true) → Reps K B vs l → Reps K B' vs l
  | _, _, _, .nil => .nil
  | _, _, h, .cons r t => .cons (Rep.scal (h _ List.mem_cons_self) r) (Reps.scal (fun d hd => h d (List.mem_cons_of_mem _ hd)) t)
theorem RepO.notTup {K : PySem.W.Frag} {B : Hp} : ∀ {mo : MO} {o : HO}, RepO K B mo o → ∀ xs, o ≠ .tup xs
  | _, _, .lst _, _, z => by cases z
  | _, _, .ins _, _, z => by cases z
  | _, _, .dic _ _ hn, xs, z => hn xs z
theorem Holds.widen {K : PySem.W.Frag} {B H Hn : Hp} {M : Mem} {v : V} {l : List D} (x : Holds K B M H) (s : Same H Hn) (r : Rep K Hn v (.tup l)) (hl : ∀ d ∈ l, d.scal = true) : ∃ B', Same B B' ∧ Holds K B' M Hn ∧ Rep K B' v (.tup l) := by
  have nin : ∀ a : Addr, (∃ c ∈ M, c.1 = a) ∨ ¬ ∃ c ∈ M, c.1 = a := fun a => Classical.em _
  let B' : Hp := fun a => open Classical in if ∃ c ∈ M, c.1 = a then B a else Hn a
  have at_ : ∀ {a}, (∃ c ∈ M, c.1 = a) → B' a = B a := fun h => by show (if _ then _ else _) = _; rw [if_pos h]
  have ne_ : ∀ {a}, (¬ ∃ c ∈ M, c.1 = a) → B' a = Hn a := fun h => by show (if _ then _ else _) = _; rw [if_neg h]
  have sB : Same B B' := fun a o e => by
    rcases nin a with h | h
    · rw [at_ h, e]
    · rw [ne_ h]; exact s _ _ (x.fr _ _ e)
  refine ⟨B', sB, ⟨fun a o e => ?_, fun c hc => ?_, fun c hc => ?_, x.nd⟩, ?_⟩
  · rcases nin a with h | h
    · rw [at_ h] at e; exact s _ _ (x.fr _ _ e)
    · rwa [ne_ h] at e
  · obtain ⟨o, h1, h2⟩ := x.mem c hc
    exact ⟨o, s _ _ h1, h2.mono sB⟩
  · rw [at_ ⟨c, hc, rfl⟩]; exact x.out c hc
  · cases r with
    | @tup a xs _ ht rs =>
      refine .tup (xs := xs) ?_ ?_
      · rcases ht with ht | ht
        · refine .inl ?_
          have hno : ¬ ∃ c ∈ M, c.1 = a := by
            rintro ⟨c, hc, e⟩
            obtain ⟨o, h1, h2⟩ := x.mem c hc
            have h3 := s _ _ h1
            rw [e, ht] at h3
            cases h3
            exact h2.notTup _ rfl
          rw [ne_ hno, ht]
        · exact .inr ht
      · exact Reps.scal hl rs
theorem cut_false {H : Hp} : cut H (fun _ => False) = H := funext fun a => cut_ne fun h => h
theorem EM.word {X : Cx} {N Ng : List Str} {sc : Scope} {ρ : Rho} {M : Mem} {P : D → Mem → Prop} {x a : Str} {st : Stmt} {g : Addr} {fd : FuncData} {e : Expr} {p pos : Pos} (c : Ctx X N sc) (Fx : Fun X.K x x st g fd) (hm : X.mg x = some (.ref g)) (Res : D → Prop) (hres : ∀ d, Res d → ∃ l, d = .tup l ∧ ∀ z ∈ l, z.scal = true)
    (h : EM X e ρ M fun d M1 => ∃ f : Addr, d = .raw (.ref f) ∧ (∀ d, Res d → P d M1) ∧ ∀ (F0 : Mem) (pins : List (Addr × Obj)) (σ : L2.St) (B H : Hp) (s : Shared), Inv X pins σ H s → EnvRep X.K B σ ρ → Holds X.K B (M1 ++ F0) H → ∀ Q : VK, (∀ d v Hn, Res d → Same H Hn → Rep X.K Hn v d → Q v Hn) → wpAny (model X.prog X.w) X.A (PySem.call (.ref g) [.ref f]) (EP X pins σ Q) X.xe s)
    (hg : glB sc x = true := by decide +kernel) (hdb : (x == ("__debug__" : Str)) = false := by decide +kernel) (he : starEach [e] X.env = (false, eval e X.env) :: starEach [] X.env := by rfl) : EM X (.Call (.Name x p) [e] [] pos) ρ M P := ⟨fun Fr σ B H hρ hx Q q pins s I => by
  refine wpAny_Call_Name_kw (ld_glob I (c.gl x hg) hm ?_ hdb)
  refine PySem.W.callWith_K (h₀ := X.base) I.ok.mod.kin Fx.kp ?_ (by rw [he] <;> rfl) (by rfl)
  rw [he]
  show wpAny _ _ (spliced ((false, eval e X.env) :: backTo pos (starEach [] X.env))) _ _ s
  refine Calls.spliced_cons (wpAny_mono (h Fr σ B H hρ hx (fun v H1 => ∃ (f : Addr) (M1 : Mem) (B1 : Hp), v = .ref f ∧ Same B B1 ∧ Holds X.K B1 (M1 ++ Fr) H1 ∧ (∀ d, Res d → P d M1) ∧ ∀ (F0 : Mem) (pins : List (Addr × Obj)) (σ : L2.St) (B H : Hp) (s : Shared), Inv X pins σ H s → EnvRep X.K B σ ρ → Holds X.K B (M1 ++ F0) H → ∀ Q : VK, (∀ d v Hn, Res d → Same H Hn → Rep X.K Hn v d → Q v Hn) → wpAny (model X.prog X.w) X.A (PySem.call (.ref g) [.ref f]) (EP X pins σ Q) X.xe s)
    (fun d M1 v B1 H1 ⟨f, e1, h1, h2⟩ s1 x1 r1 => by
      subst e1
      cases r1
      exact ⟨f, M1, B1, rfl, s1, x1, h1, h2⟩) pins s I) (fun u s1 ⟨v, H1, I1, r1, f, M1, B1, e1, sB, x1, h1, h2⟩ => ?_) fun _ _ z => z)
  subst e1
  obtain rfl : u = Value.ref f := r1
  refine Calls.spliced_nil ⟨I1.kIn, ?_⟩
  refine h2 Fr pins σ B1 H1 s1 I1 (hρ.mono sB) x1 Q fun d v Hn hR sH rv => ?_
  obtain ⟨l, rfl, hl⟩ := hres d hR
  obtain ⟨B2, s2, x2, r2⟩ := x1.widen sH rv hl
  exact q _ M1 v B2 Hn (h1 _ hR) (sB.trans s2) x2 r2⟩
end Dl
namespace Dl
open PySem PySem.Spec PyProof.Rows L2
open LamX (CodeO TabB)
open NdefX (NF CellsAt NScope ncx startF envF slotAt Caps cells_of)
/-! ### the slots of a lambda's body -/
def capR (N : List Str) (ds : List D) (os : List (Option D)) : Rho := ds.map some ++ (os ++ List.replicate (N.length - ds.length - os.length) none)
theorem start_cap {K : PySem.W.Frag} {B : Hp} {N : List Str} {vs : List V} {ds : List D} {ws : List (Option V)} {os : List (Option D)} (r : Reps K B vs ds) (hl : ws.length = os.length) (h : ∀ (i : Nat) (d : D), os[i]? = some (some d) → ∃ v, ws[i]? = some (some v) ∧ Rep K B v d) : EnvRep K B (startF N vs ws) (capR N ds os) := by
  have rl := r.length
  unfold startF capR
  refine ⟨by simp only [List.length_append, List.length_map, List.length_replicate]; omega, fun i d e => ?_⟩
  by_cases h1 : i < ds.length
  · rw [List.getElem?_append_left (by rw [List.length_map]; exact h1), List.getElem?_map] at e
    cases e1 : ds[i]? with
    | none => rw [e1] at e; cases e
    | some d' =>
      rw [e1] at e
      cases e
      obtain ⟨v, a1, a2⟩ := r.get e1
      exact ⟨v, by rw [List.getElem?_append_left (by rw [List.length_map]; omega), List.getElem?_map, a1] <;> rfl, a2⟩
  · rw [List.getElem?_append_right (by rw [List.length_map]; omega), List.length_map] at e
    by_cases h2 : i - ds.length < os.length
    · rw [List.getElem?_append_left h2] at e
      obtain ⟨v, a1, a2⟩ := h _ d e
      refine ⟨v, ?_, a2⟩
      rw [List.getElem?_append_right (by rw [List.length_map]; omega), List.length_map, rl, List.getElem?_append_left (by omega)]
      exact a1
    · rw [List.getElem?_append_right (by omega), List.getElem?_replicate] at e
      split at e <;> cases e
/-- the captured slots of the frame at hand -/
theorem slots_cap {K : PySem.W.Frag} {B : Hp} {σ : L2.St} {ρ : Rho} (e : EnvRep K B σ ρ) (js : List Nat) (i : Nat) (d : D) (h : (js.map fun j => (ρ[j]?).join)[i]? = some (some d)) : ∃ v, (js.map (slotAt σ))[i]? = some (some v) ∧ Rep K B v d := by
  rw [List.getElem?_map] at h
  cases ej : js[i]? with
  | none => rw [ej] at h; cases h
  | some j =>
    rw [ej] at h
    have h2 : (ρ[j]?).join = some d := Option.some.inj h
    have h3 : ρ[j]? = some (some d) := by
      cases er : ρ[j]? with
      | none => rw [er] at h2; cases h2
      | some o => rw [er] at h2; rw [show o = some d from h2]
    obtain ⟨v, a1, a2⟩ := e.at' j d h3
    refine ⟨v, ?_, a2⟩
    rw [List.getElem?_map, ej]
    exact congrArg some (NdefX.slotAt_of a1)
theorem lam_ne_code {P : Program} {w : World} {H : Hp} {h : Heap} {f c : Addr} {F : LF} {q : Str} (hok : HOk P w H h) (hf : H f = some (LamO f F)) (hc : H c = some (CodeO c q)) : c ≠ f := fun e => by
  subst e
  obtain ⟨doc, pm, ctv, h1⟩ := lamO_at hok hf
  obtain ⟨⟨oc, us, t, h2, h3, _⟩, _, _⟩ := hok c _ hc
  rw [h1] at h2
  cases h2
  cases h3
section
variable {X : Cx} {N Ng Nl ps fr : List Str} {sc : Scope} {ρ : Rho} {M : Mem} {x a : Str} {st : Stmt} {g f c' : Addr} {fd : FuncData} {k kt : Nat} {T : Addr} {q : Str} {Fa : Hp → Prop} {F : LF} {js : List Nat} {vs : List V} {ds : List D}
/-- what a def that calls its lambda makes of it -/
def Words (X : Cx) (Ng : List Str) (st : Stmt) (a : Str) (k : Nat) (Re : Er → Prop) (Nm : Prop) (Res : D → Prop) : Prop := ∀ (f : Addr) (Z : Cx) (M : Mem), Z.prog = X.prog → Z.w = X.w → Z.K = X.K → Z.mg = X.mg → Z.base = X.base → Z.stack = Z.env :: Z.outer → Z.env.frame = some Z.env.locals → Ctx Z Ng (defScope st) → Room (k + 1) Z.A →
  (∀ pn xe p1 p2, EMx (Z.tr pn xe) (.Call (.Name a p1) [] [] p2) (startD Ng [.raw (.ref f)]) M (fun y ρ' M' => ρ' = none_ Ng ∧ M' = M ∧ Re y) (fun _ M' => M' = M ∧ Nm)) → SM Z (defBody st) (startD Ng [.raw (.ref f)]) M { nx := fun _ _ => False, rt := fun d M' => M' = M ∧ Res d }
/-- a lambda made in the frame at hand, its cells the frame's -/
theorem word_live (Fx : Fun X.K x x st g fd) (Sg : FnScope Ng [a] (defScope st)) (hb : L2.Binds X.K fd [a] []) (hr : Room (k + 2) X.A) (hM : M[kt]? = some (T, .dic (TabF q Fa))) (hFa : ∀ B, Fa B → Made f c' F B ∧ BindL F ps vs B) (hFc : F.c = c') (hcl : F.cl = cloFrom X.env.cells F.scope.names [])
    (hfr : ∀ y ∈ F.scope.names, y.2 = .free → X.env.scope.names.lookup y.1 = some .cell ∨ X.env.scope.names.lookup y.1 = some .free) (hfn : ∀ y ∈ fr, (y, NameKind.free) ∈ F.scope.names) (hjs : js.map (fun j => X.N[j]?) = fr.map some)
    (S : NScope Nl ps fr F.scope) (hds : ∀ B, Reps X.K B vs ds) (Re : Er → Prop) (Nm : Prop) (scal : ∀ y, Re y → ∀ p ∈ y.fs, p.2.scal = true)
    (hbody : ∀ A outer s' H' E, Room k (A.deeper (envF F.nf f s'.heap.objs.size)) → EMx (ncx (L2.CX X.prog X.w) X.prog X.w X.K X.mg X.base Nl F.nf f A outer s' H' E) F.body (capR Nl ds (js.map fun j => (ρ[j]?).join)) [] (fun y _ M' => M' = [] ∧ Re y) (fun _ M' => M' = [] ∧ Nm))
    (Res : D → Prop) (hword : Words X Ng st a k Re Nm Res) (hN0 : Ng[0]? = some a) (hva : visB (defScope st) a = true) (hda : (a == ("__debug__" : Str)) = false) (hca : (a == ("__classdict__" : Str)) = false)
    (F0 : Mem) (pins : List (Addr × Obj)) (σ : L2.St) (B H : Hp) (s : Shared) (I : Inv X pins σ H s) (hρ : EnvRep X.K B σ ρ) (hx : Holds X.K B (M ++ F0) H) (Q : VK) (hq : ∀ d v Hn, Res d → Same H Hn → Rep X.K Hn v d → Q v Hn) : wpAny (model X.prog X.w) X.A (PySem.call (.ref g) [.ref f]) (EP X pins σ Q) X.xe s := by
  obtain ⟨o, h1, h2, h3⟩ := hx.at (at_app hM)
  cases h2 with
  | dic φ _ _ =>
  obtain ⟨_, fa⟩ := φ
  obtain ⟨⟨m1, m2⟩, bl⟩ := hFa B fa
  rw [← hFc] at m2
  have f1 := hx.fr _ _ m1
  have f2 := hx.fr _ _ m2
  have C0 : ∀ c : Addr, (fun _ : Addr => False) c → ∃ φ, H c = some (.ext φ) := fun c h => h.elim
  have Cl : CellsAt F.cl fr (js.map (slotAt σ)) s.heap H := by
    rw [hcl]
    exact cells_of I (Caps.made I.ok hfr hfn hjs)
  refine go_word (C := fun _ => False) (k := k) (F := F) (f := f) (N := Nl) (ps := ps) (fr := fr) (vs := vs) (ws := js.map (slotAt σ)) (ρl := capR Nl ds (js.map fun j => (ρ[j]?).join)) I Fx Sg hb hr C0 S (by rw [cut_false]; exact f1) (by rw [cut_false]; exact f2) (lam_ne_code I.hok f1 f2) (by rw [cut_false]; exact bl.mono hx.fr) (by rw [cut_false]; exact Cl)
    ?_ Re Nm scal hbody Res (hword f) hN0 hva hda hca Q hq
  rw [cut_false]
  exact (start_cap (hds B) (by rw [List.length_map, List.length_map]) (slots_cap hρ js)).mono hx.fr
/-! ### .. whose maker's frame is gone -/
/-- a cell, known -/
def CellO (c : Addr) (v : V) : HO := .ext fun h => ∃ u, RelV v u ∧ h.IsCell c (some u)
structure CellsB (K : PySem.W.Frag) (cl : List (Str × Addr)) (fr : List Str) (us : List V) (es : List D) (B : Hp) : Prop where
  len : us.length = fr.length
  all : ∀ y c, cl.lookup y = some c → ∃ v, B c = some (CellO c v)
  inj : ∀ x y c, cl.lookup x = some c → cl.lookup y = some c → x = y
  has : ∀ (i : Nat) (y : Str), fr[i]? = some y → ∃ c v, cl.lookup y = some c ∧ us[i]? = some v ∧ B c = some (CellO c v)
  rep : Reps K B us es
theorem CellsB.mono {K : PySem.W.Frag} {cl : List (Str × Addr)} {us : List V} {es : List D} {B B' : Hp} (s : Same B B') (h : CellsB K cl fr us es B) : CellsB K cl fr us es B' :=
  ⟨h.len, fun y c e => let ⟨v, z⟩ := h.all y c e; ⟨v, s _ _ z⟩, h.inj, fun i y e => let ⟨c, v, a, b, z⟩ := h.has i y e; ⟨c, v, a, b, s _ _ z⟩, h.rep.mono s⟩
theorem word_dead {es : List D} (Fx : Fun X.K x x st g fd) (Sg : FnScope Ng [a] (defScope st)) (hb : L2.Binds X.K fd [a] []) (hr : Room (k + 2) X.A) (hM : M[kt]? = some (T, .dic (TabF q Fa))) (hFa : ∀ B, Fa B → Made f c' F B ∧ BindL F ps vs B ∧ ∃ us, CellsB X.K F.cl fr us es B) (hFc : F.c = c')
    (S : NScope Nl ps fr F.scope) (hds : ∀ B, Reps X.K B vs ds) (Re : Er → Prop) (Nm : Prop) (scal : ∀ y, Re y → ∀ p ∈ y.fs, p.2.scal = true)
    (hbody : ∀ A outer s' H' E, Room k (A.deeper (envF F.nf f s'.heap.objs.size)) → EMx (ncx (L2.CX X.prog X.w) X.prog X.w X.K X.mg X.base Nl F.nf f A outer s' H' E) F.body (capR Nl ds (es.map some)) [] (fun y _ M' => M' = [] ∧ Re y) (fun _ M' => M' = [] ∧ Nm))
    (Res : D → Prop) (hword : Words X Ng st a k Re Nm Res) (hN0 : Ng[0]? = some a) (hva : visB (defScope st) a = true) (hda : (a == ("__debug__" : Str)) = false) (hca : (a == ("__classdict__" : Str)) = false)
    (F0 : Mem) (pins : List (Addr × Obj)) (σ : L2.St) (B H : Hp) (s : Shared) (I : Inv X pins σ H s) (hx : Holds X.K B (M ++ F0) H) (Q : VK) (hq : ∀ d v Hn, Res d → Same H Hn → Rep X.K Hn v d → Q v Hn) : wpAny (model X.prog X.w) X.A (PySem.call (.ref g) [.ref f]) (EP X pins σ Q) X.xe s := by
  obtain ⟨o, h1, h2, h3⟩ := hx.at (at_app hM)
  cases h2 with
  | dic φ _ _ =>
  obtain ⟨_, fa⟩ := φ
  obtain ⟨⟨m1, m2⟩, bl, us, cb⟩ := hFa B fa
  rw [← hFc] at m2
  have f1 := hx.fr _ _ m1
  have f2 := hx.fr _ _ m2
  have hC : Ours H (fun c => ∃ y, F.cl.lookup y = some c) := fun c ⟨y, e⟩ => by
    obtain ⟨v, z⟩ := cb.all y c e
    exact ⟨_, hx.fr _ _ z⟩
  -- neither the lambda nor its code is a cell
  have ncell : ∀ b o, H b = some o → (∀ h : Heap, ObjOk X.prog X.w H h b o → ∃ ob, h.get? b = some ob ∧ ∀ v, ob.data ≠ .cell v) → ¬ ∃ y, F.cl.lookup y = some b := fun b o e n ⟨y, z⟩ => by
    obtain ⟨v, z2⟩ := cb.all y b z
    obtain ⟨⟨u, _, ob, e1, e2⟩, _, _⟩ := I.hok b _ (hx.fr _ _ z2)
    obtain ⟨ob2, e3, e4⟩ := n _ (I.hok b o e)
    rw [e1] at e3
    cases e3
    exact e4 _ e2
  have n1 := ncell f _ f1 fun h ok => by
    obtain ⟨⟨doc, pm, ctv, z⟩, _, _⟩ := ok
    exact ⟨_, z, fun v z => by cases z⟩
  have n2 := ncell F.c _ f2 fun h ok => by
    obtain ⟨⟨oc, us, t, z, z2, _⟩, _, _⟩ := ok
    exact ⟨_, z, fun v z3 => by rw [z2] at z3; cases z3⟩
  have ours : ∀ c, (∃ y, F.cl.lookup y = some c) → ∀ o, B c = some o → ∃ φ, o = .ext φ := fun c ⟨y, e⟩ o z => by
    obtain ⟨v, z2⟩ := cb.all y c e
    rw [z] at z2
    exact ⟨_, Option.some.inj z2⟩
  have scut : Same (cut B fun c => ∃ y, F.cl.lookup y = some c) (cut H fun c => ∃ y, F.cl.lookup y = some c) := fun b o e => by
    by_cases h : ∃ y, F.cl.lookup y = some b
    · rw [cut_at h] at e; cases e
    · rw [cut_ne (C := fun c => ∃ y, F.cl.lookup y = some c) h] at e ⊢
      exact hx.fr _ _ e
  have bl2 : BindL F ps vs (cut B fun c => ∃ y, F.cl.lookup y = some c) := by
    rcases bl with h | ⟨a', i, t, e1, e2, e3, e4, e5⟩
    · exact .inl h
    · refine .inr ⟨a', i, t, e1, e2, e3, ?_, e5⟩
      rw [cut_ne fun h => ?_, e4]
      obtain ⟨φ, z⟩ := ours t h _ e4
      cases z
  have rs2 : Reps X.K (cut B fun c => ∃ y, F.cl.lookup y = some c) us es := Reps.cut ours cb.rep
  refine go_word (C := fun c => ∃ y, F.cl.lookup y = some c) (k := k) (F := F) (f := f) (N := Nl) (ps := ps) (fr := fr) (vs := vs) (ws := us.map some) (ρl := capR Nl ds (es.map some)) I Fx Sg hb hr hC S (by rw [cut_ne (C := fun c => ∃ y, F.cl.lookup y = some c) n1]; exact f1) (by rw [cut_ne (C := fun c => ∃ y, F.cl.lookup y = some c) n2]; exact f2)
    (lam_ne_code I.hok f1 f2) (bl2.mono scut) ⟨by rw [List.length_map]; exact cb.len, fun y c e => ⟨cut_at ⟨y, e⟩, ?_⟩, cb.inj, fun i y e => ?_⟩ ?_ Re Nm scal hbody Res (hword f) hN0 hva hda hca Q hq
  · obtain ⟨v, z⟩ := cb.all y c e
    obtain ⟨⟨u, _, z2⟩, _, _⟩ := I.hok c _ (hx.fr _ _ z)
    exact ⟨_, z2⟩
  · obtain ⟨c, v, e1, e2, e3⟩ := cb.has i y e
    refine ⟨c, e1, fun v' e4 => ?_⟩
    rw [List.getElem?_map, e2] at e4
    cases e4
    obtain ⟨⟨u, r, z2⟩, _, _⟩ := I.hok c _ (hx.fr _ _ e3)
    exact ⟨u, r, z2⟩
  · refine (start_cap (hds _) (by rw [List.length_map, List.length_map, rs2.length]) fun i d e => ?_).mono scut
    rw [List.getElem?_map] at e
    cases ee : es[i]? with
    | none => rw [ee] at e; cases e
    | some d' =>
      rw [ee] at e
      cases e
      obtain ⟨v, a1, a2⟩ := rs2.get ee
      exact ⟨v, by rw [List.getElem?_map, a1] <;> rfl, a2⟩
end
end Dl
namespace Dl
open PySem PySem.Spec PyProof.Rows L2
open LamX (CodeO TabB)
open NdefX (NF CellsAt NScope ncx startF envF slotAt Caps cells_of)
/-! ### a def that hands out lambdas: its cells are known from then on -/
theorem execs_app (env : Env) (b : List Stmt) : ∀ a : List Stmt, execs (a ++ b) env = (execs a env >>= fun f => match f with | .next => execs b env | f => pure f)
  | [] => by
    show execs b env = (pure Flow.next >>= _)
    rw [pure_bind]
  | st :: a => by
    rw [List.cons_append, execs_cons, execs_cons, bind_assoc]
    refine congrArg (exec st env >>= ·) (funext fun f => ?_)
    cases f with
    | next => exact execs_app env b a
    | ret v => exact (pure_bind _ _).symm
    | brk => exact (pure_bind _ _).symm
    | cont => exact (pure_bind _ _).symm
theorem un_add {fs ex : List Addr} {H H' : Hp} {h h' : Heap} {c : Addr} {o : HO} (u : Un fs ex H H' h h') (hn : H' c = none) (hc : h.get? c = none) : Un fs ex H (L2.upd H' c o) h h' := by
  have key : ∀ {b : Addr} {z : HO}, H' b = some z → L2.upd H' c o b = some z := fun {b z} e => by rw [upd_ne (ne_of_none e hn)]; exact e
  refine ⟨u.keep, u.slot, fun b o' e n x => ?_, u.there, fun b xs e => key (u.tups b xs e), fun b o' x e => key (u.frzs b o' x e), fun b ps e => let ⟨m, z⟩ := u.tbls b ps e; ⟨m, key z⟩⟩
  rw [upd_ne fun z => ?_]
  · exact u.free b o' e n x
  · rw [z, hc] at e; cases e
theorem hok_cell {P : Program} {w : World} {H : Hp} {h : Heap} {c : Addr} {v : V} {u : Value} (x : HOk P w H h) (hn : H c = none) (r : RelV v u) (hc : h.IsCell c (some u)) : HOk P w (L2.upd H c (CellO c v)) h := fun b o e => by
  by_cases z : b = c
  · subst z
    rw [upd_same] at e
    cases e
    obtain ⟨ob, e1, e2⟩ := hc
    refine ⟨⟨u, r, ob, e1, e2⟩, ⟨ob, e1⟩, fun h1 h2 ⟨u', r', ob', a1, a2⟩ st => ⟨u', r', ob', st _ a1, a2⟩⟩
  · rw [upd_ne z] at e
    refine (x b o e).stay (fun _ _ _ z => z) (fun b' z2 => ?_) fun b' xs z2 => ?_
    · rw [upd_ne (ne_of_none z2 hn)]; exact z2
    · rw [upd_ne (ne_of_none z2 hn)]; exact z2
/-- a lambda's names: it captures these two -/
structure LamSc (y1 y2 : Str) (scope : Scope) : Prop where
  fr : ∀ y ∈ scope.names, y.2 = .free → y.1 = y1 ∨ y.1 = y2
  h1 : (y1, NameKind.free) ∈ scope.names
  h2 : (y2, NameKind.free) ∈ scope.names
/-- what is known of the cells that lambdas captured -/
def Kept (K : PySem.W.Frag) (cells : List (Str × Addr)) (y1 y2 : Str) (d1 d2 : D) : Hp → Prop := fun B => ∀ scope, LamSc y1 y2 scope → ∃ us, CellsB K (cloFrom cells scope.names []) [y1, y2] us [d1, d2] B
theorem Kept.mono {K : PySem.W.Frag} {cells : List (Str × Addr)} {y1 y2 : Str} {d1 d2 : D} {B B' : Hp} (s : Same B B') (h : Kept K cells y1 y2 d1 d2 B) : Kept K cells y1 y2 d1 d2 B' := fun scope l => let ⟨us, z⟩ := h scope l; ⟨us, z.mono s⟩
section
variable {X : Cx} {N : List Str} {sc : Scope} {ρ : Rho} {σ : L2.St} {H B : Hp} {s : Shared} {pins : List (Addr × Obj)}
theorem cell_at (c : Ctx X N sc) (I : Inv X pins σ H s) (hρ : EnvRep X.K B σ ρ) {y : Str} {d : D} (hy : X.env.scope.names.lookup y = some .cell) (h : At N ρ y d) : ∃ a v u, X.env.cells.lookup y = some a ∧ Rep X.K B v d ∧ RelV v u ∧ s.heap.IsCell a (some u) ∧ H a = none := by
  obtain ⟨i, h1, h2⟩ := h.ix
  obtain ⟨v, h3, h4⟩ := hρ.at' i d h2
  obtain ⟨m, hn, hl⟩ := I.loc
  obtain ⟨u, r, l⟩ := hl i y v (by rw [c.nm]; exact h1) h3 (.inr (.inl hy))
  rcases l with ⟨z, _⟩ | ⟨_, a, ha, hc⟩
  · rw [show X.env.scope.names.lookup y = some .local from z] at hy
    cases hy
  · exact ⟨a, v, u, ha, h4, r, hc, I.freeC y a ha⟩
end
theorem ok_defE {P : Program} {w : World} {K : PySem.W.Frag} {mg : Str → Option Value} {base : Heap} {x qual : Str} {st : Stmt} {f cc : Addr} {params : Arguments} {dV kV doc pm ct oc : Value} {an od : Option Addr} {osl : Array (Option Value)} {N ps : List Str} {k : Nat} {S : DA} {ini : List Stmt} {e : Expr} {rp : Pos} {y1 y2 : Str}
    (lk : K.lookup f = some ⟨oc, od, .func (PySem.W.fnOf x qual params (defBody st) (defScope st) dV kV doc pm an (.ref cc) ct), osl⟩) (hcd : PySem.W.codeIn K (.ref cc) qual = true) (hkp : PySem.W.keepIn K (.ref f) = true)
    (Sc : FnScope N ps (defScope st)) (hm : mg x = some (.ref f)) (hb : L2.Binds K (PySem.W.fnOf x qual params (defBody st) (defScope st) dV kV doc pm an (.ref cc) ct) ps []) (mono : DMono S) (hl : DLen S ps.length) (hbd : defBody st = ini ++ [.Return (some e) rp])
    (hy1 : (defScope st).names.lookup y1 = some .cell) (hy2 : (defScope st).names.lookup y2 = some .cell) (hne : y1 ≠ y2)
    (body : ∀ X : Cx, X.prog = P → X.w = w → X.K = K → X.mg = mg → X.base = base → X.env.code = .ref cc → X.env.scope = defScope st → X.env.qual = qual ++ ".<locals>." → Ctx X N (defScope st) → Room k X.A → ∀ ds M (Q : D → Mem → Prop), S ds M Q →
      SM X ini (startD N ds) M { nx := fun ρ1 M1 => EM X e ρ1 M1 fun d M2 => ∃ (d1 d2 : D) (T : Addr) (kt : Nat) (q : Str) (Fa : Hp → Prop), At N ρ1 y1 d1 ∧ At N ρ1 y2 d2 ∧ M2[kt]? = some (T, .dic (TabF q Fa)) ∧ Q d (M2.set kt (T, .dic (TabF q fun B => Fa B ∧ Kept K X.env.cells y1 y2 d1 d2 B))), rt := fun _ _ => False }) : Gd P w K mg base x (k + 1) ps S := by
  refine ⟨⟨f, _, ⟨fun vs H Q E h => ?_, fun A outer s H args us vs Q E hr e0 hbt r h => ?_⟩, hm, hkp, hb⟩, mono⟩
  · obtain ⟨F, B, M, ds, r, _, h⟩ := h
    rw [r.length]
    exact hl _ _ _ h
  obtain ⟨F, B, M, ds, rds, hx, h⟩ := h
  have hvl : vs.length = ps.length := by rw [rds.length]; exact hl _ _ _ h
  have KX : K.In s.heap := e0.mod.kin.keeps fun b o z => (e0.bs b o z).1
  have lim : s.heap.NoLimit := e0.mod.nolimit.keeps fun b o z => (e0.bs b o z).1
  have hkind : ∀ y ∈ ps.zip us, (defScope st).names.lookup y.1 = some NameKind.local ∨ ((defScope st).names.lookup y.1 = some NameKind.cell ∧ ((cellsFrom (s.heap.objs.size + 1) (defScope st).names []).lookup y.1).isSome = true) := fun ⟨n, v⟩ hy =>
    (Sc.par n (List.of_mem_zip hy).1).elim .inl fun z => .inr ⟨z, PySem.W.cellsFrom_some _ _ _ (.inl z)⟩
  refine codeAny_call_function hr.depth (KX _ _ lk) rfl Sc.co Sc.gen rfl (PySem.W.codeRec_of KX hcd) (hbt _ _ _ _ (wpAny_newFunctionEnv_cells Sc.kind hkind fun env he s1 xc => ?_))
  subst he
  refine ⟨lim.keeps xc.toInCall.keep, codeAny_func ?_⟩
  have hr' := hr.deeper (envOfC qual (defScope st) s.heap.objs.size f (.ref cc))
  have I : Inv (cxOf CX0 P w K mg base N qual (defScope st) f (.ref cc) A outer s H E).nox [] (L2.start N vs) H s1 := (inv_start (CX := CX0) (E := E) Sc hr.hd e0 hvl r xc).wish _
  show wpAny _ (A.deeper (envOfC qual (defScope st) s.heap.objs.size f (.ref cc))) (execs (defBody st) (envOfC qual (defScope st) s.heap.objs.size f (.ref cc))) _ _ s1
  have hbody := body (cxOf CX0 P w K mg base N qual (defScope st) f (.ref cc) A outer s H E).nox rfl rfl rfl rfl rfl rfl rfl rfl (Ctx.fn rfl Sc.nd rfl rfl Sc.kind (fun _ => rfl) PassesOwn.never) hr' ds M _ h
  have cx : Ctx (cxOf CX0 P w K mg base N qual (defScope st) f (.ref cc) A outer s H E).nox N (defScope st) := Ctx.fn rfl Sc.nd rfl rfl Sc.kind (fun _ => rfl) PassesOwn.never
  generalize hX : (cxOf CX0 P w K mg base N qual (defScope st) f (.ref cc) A outer s H E).nox = X at I hbody cx
  have eprog : X.prog = P := by rw [← hX] <;> rfl
  have ew : X.w = w := by rw [← hX] <;> rfl
  have eK : X.K = K := by rw [← hX] <;> rfl
  have eA : X.A = A.deeper (envOfC qual (defScope st) s.heap.objs.size f (.ref cc)) := by rw [← hX] <;> rfl
  have eenv : X.env = envOfC qual (defScope st) s.heap.objs.size f (.ref cc) := by rw [← hX] <;> rfl
  have exe : ∀ e s', X.xe e s' → False := fun e s' z => by rw [← hX] at z; exact z
  have eout : X.fs = frs outer := by rw [← hX] <;> rfl
  have eex : X.ex = [] := by rw [← hX] <;> rfl
  have e0h : X.H_0 = H := by rw [← hX] <;> rfl
  have e0s : X.s_0 = s := by rw [← hX] <;> rfl
  have esc : X.env.scope = defScope st := by rw [← hX] <;> rfl
  have efn : ∀ y, X.fn y = true := fun y => by rw [← hX] <;> rfl
  clear hX
  subst eprog ew eK
  rw [hbd, execs_app, ← eA, ← eenv]
  refine wpAny_bind (wpAny_mono (hbody.run F (L2.start N vs) B H (start_rep rds) hx { nx := fun σ' H' => ∃ ρ1 M1 B1, EM X e ρ1 M1 _ ∧ EnvRep X.K B1 σ' ρ1 ∧ Same B B1 ∧ Holds X.K B1 (M1 ++ F) H', rt := fun _ _ => False } ⟨fun ρ1 M1 σ' B1 H' p s1 r1 x1 => ⟨ρ1, M1, B1, p, r1, s1, x1⟩, fun _ _ _ _ _ p => p.elim, fun _ _ _ _ _ p => p.elim, fun _ _ _ _ _ p => p.elim⟩ [] s1 I) (fun fl s2 q => ?_) fun e s' z => (exe e s' z).elim)
  cases fl with
  | ret u => obtain ⟨_, _, _, _, _, z⟩ := q; exact z.elim
  | brk => obtain ⟨_, _, _, z⟩ := q; exact False.elim z
  | cont => obtain ⟨_, _, _, z⟩ := q; exact False.elim z
  | next =>
    obtain ⟨σ2, H2, I2, ρ1, M1, B1, he, hρ1, sB1, hx1⟩ := q
    refine wpAny_execs_cons (wpAny_Return_some (wpAny_mono (he.run F σ2 B1 H2 hρ1 hx1 (fun v H3 => ∃ d M2 B2, (∃ (d1 d2 : D) (T : Addr) (kt : Nat) (q : Str) (Fa : Hp → Prop), At N ρ1 y1 d1 ∧ At N ρ1 y2 d2 ∧ M2[kt]? = some (T, .dic (TabF q Fa)) ∧ ∀ v B' H', Same B B' → Holds X.K B' (M2.set kt (T, .dic (TabF q fun B => Fa B ∧ Kept X.K X.env.cells y1 y2 d1 d2 B)) ++ F) H' → Rep X.K B' v d → Q v H') ∧ Same B1 B2 ∧ Holds X.K B2 (M2 ++ F) H3 ∧ Rep X.K B2 v d)
      (fun d M2 v B2 H3 p s3 x3 r3 => ⟨d, M2, B2, p, s3, x3, r3⟩) [] s2 I2) (fun u s3 ⟨v, H3, I3, ru, d, M2, B2, ⟨d1, d2, T, kt, q, Fa, a1, a2, hM, hQ⟩, sB2, hx3, rd⟩ => ?_) fun e s' z => (exe e s' z).elim))
    obtain ⟨c1, v1, u1, k1, k2, k3, k4, k5⟩ := cell_at cx I3 (hρ1.mono sB2) (by rw [esc]; exact hy1) a1
    obtain ⟨c2, v2, u2, l1, l2, l3, l4, l5⟩ := cell_at cx I3 (hρ1.mono sB2) (by rw [esc]; exact hy2) a2
    have c12 : c1 ≠ c2 := fun z => hne (I3.ok.inj y1 y2 c1 k1 (by rw [z]; exact l1))
    have old : ∀ {y : Str} {c : Addr}, X.env.cells.lookup y = some c → s.heap.get? c = none := fun {y c} z => by
      have z2 := I3.ok.cab y c (efn y) z
      rw [e0s] at z2
      exact Heap.get?_none_of_le z2
    have n2 : L2.upd H3 c1 (CellO c1 v1) c2 = none := by rw [upd_ne (Ne.symm c12)]; exact l5
    have x4 := (hx3.new (o := CellO c1 v1) k5).new (o := CellO c2 v2) (p := c2) n2
    have s1' : Same B2 (L2.upd B2 c1 (CellO c1 v1)) := Same.upd (hx3.free k5)
    have s2' : Same (L2.upd B2 c1 (CellO c1 v1)) (L2.upd (L2.upd B2 c1 (CellO c1 v1)) c2 (CellO c2 v2)) := Same.upd (by rw [upd_ne (Ne.symm c12)]; exact hx3.free l5)
    have hB1 : L2.upd (L2.upd B2 c1 (CellO c1 v1)) c2 (CellO c2 v2) c1 = some (CellO c1 v1) := by rw [upd_ne c12, upd_same]
    have hB2 : L2.upd (L2.upd B2 c1 (CellO c1 v1)) c2 (CellO c2 v2) c2 = some (CellO c2 v2) := upd_same
    have sB4 := s1'.trans s2'
    generalize L2.upd (L2.upd B2 c1 (CellO c1 v1)) c2 (CellO c2 v2) = B4 at x4 hB1 hB2 sB4
    have kept : Kept X.K X.env.cells y1 y2 d1 d2 B4 := fun scope ls => by
      have hfree : ∀ y ∈ scope.names, y.2 = .free → ∃ c, X.env.cells.lookup y.1 = some c := fun y hy z => (ls.fr y hy z).elim (fun z => ⟨c1, by rw [z]; exact k1⟩) fun z => ⟨c2, by rw [z]; exact l1⟩
      have w1 := NdefX.clo_has hfree ls.h1 k1
      have w2 := NdefX.clo_has hfree ls.h2 l1
      refine ⟨[v1, v2], rfl, fun y c z => ?_, fun x y c z1 z2 => I3.ok.inj x y c (NdefX.clo_cm hfree z1) (NdefX.clo_cm hfree z2), fun i y z => ?_, .cons (k2.mono sB4) (.cons (l2.mono sB4) .nil)⟩
      · have z3 : (y, NameKind.free) ∈ scope.names := by
          rcases cloFrom_mem (PySem.mem_of_lookup z) with hm | ⟨h1, _⟩
          · cases hm
          · exact h1
        rcases ls.fr _ z3 rfl with e | e
        · have e : y = y1 := e
          rw [e, w1] at z
          cases z
          exact ⟨v1, hB1⟩
        · have e : y = y2 := e
          rw [e, w2] at z
          cases z
          exact ⟨v2, hB2⟩
      · match i, z with
        | 0, z => cases z; exact ⟨c1, v1, w1, rfl, hB1⟩
        | 1, z => cases z; exact ⟨c2, v2, w2, rfl, hB2⟩
    obtain ⟨o, m1, m2, _⟩ := x4.at (at_app hM)
    have x5 := x4.recell (at_app hM) m1 (mo' := .dic (TabF q fun B => Fa B ∧ Kept X.K X.env.cells y1 y2 d1 d2 B)) (by
      cases m2 with
      | dic φ mono hn => exact .dic ⟨φ.1, φ.2, kept⟩ (fun B' s' => ⟨(mono B' s').1, (mono B' s').2, kept.mono s'⟩) hn)
    rw [set_app hM] at x5
    have hun := I3.base
    rw [eout, eex, e0h, e0s] at hun
    refine ⟨v, _, I3.os.trans (by rw [e0s]), I3.bare, un_add (un_add hun k5 (old k1)) n2 (old l1), hok_cell (hok_cell I3.hok k5 k3 k4) n2 l3 l4, ru, hQ v B4 _ (sB1.trans (sB2.trans sB4)) x5 (rd.mono sB4)⟩
end Dl
namespace Dl
open PySem PySem.Spec PyProof.Rows L2
open LamX (CodeO TabB)
open NdefX (NF CellsAt NScope ncx startF envF slotAt Caps cells_of)
/-! ### odds and ends of kept lambdas -/
theorem Ctx.ncx {P : Program} {w : World} {K : PySem.W.Frag} {mg : Str → Option Value} {base : Heap} {N ps fr : List Str} {F : NF} {f : Addr} {A : Around} {outer : List Env} {s : Shared} {H : Hp} {E : XK} {sc : Scope} (S : NScope N ps fr F.scope) (h : F.scope = sc) : Ctx (NdefX.ncx (L2.CX P w) P w K mg base N F f A outer s H E) N sc := by
  subst h
  refine ⟨rfl, S.nd, rfl, S.kind, passes_of rfl, fun x h => vis_of h, fun x h => gl_of h, fun x h => ⟨loc_of h, .inr ?_⟩, fun x h => cf_of h, fun x h => lcl_of h⟩
  rcases loc_of h with k | k
  · exact k
  · exact absurd rfl (S.nocell _ (PySem.mem_of_lookup k))
/-- what is known at an own thing, some of it forgotten -/
theorem EM.weakT {X : Cx} {e : Expr} {ρ : Rho} {M : Mem} {P : D → Mem → Prop} (h : EM X e ρ M fun d M' => ∃ (kt : Nat) (T : Addr) (φ φ' : Hp → HO → Prop), M'[kt]? = some (T, .dic φ') ∧ (∀ B o, φ' B o → φ B o) ∧ P d (M'.set kt (T, .dic φ))) : EM X e ρ M P := ⟨fun F σ B H hr hx Q q => h.run F σ B H hr hx Q fun d M' v B' H' ⟨kt, T, φ, φ', h1, h2, hp⟩ s x r => by
  obtain ⟨o, a1, a2, _⟩ := x.at (at_app h1)
  have y := x.recell (at_app h1) a1 (mo' := .dic φ) (by
    cases a2 with
    | dic p mono hn => exact .dic (h2 _ _ p) (fun B2 s2 => h2 _ _ (mono B2 s2)) hn)
  rw [set_app h1] at y
  exact q d _ v B' H' hp s y r⟩
/-- the law, its two tables by -/
def SLaw2 (T1 T2 : Addr) (q1 q2 : Str) : DA := fun ds M P => ∃ ns : List Int, ds = [.scr ns] ∧ M = [(T1, .dic (TabF q1 fun _ => True)), (T2, .dic (TabF q2 fun _ => True))] ∧ ∀ M', P (.bl true) M'
theorem lenLaw2 (T1 T2 : Addr) (q1 q2 : Str) : DLen (SLaw2 T1 T2 q1 q2) 1 := fun ds M P ⟨ns, e, _⟩ => by rw [e] <;> rfl
theorem law_start2 {K : PySem.W.Frag} {H : Hp} {T1 T2 a : Addr} {q1 q2 : Str} {ns : List Int} (hn : T1 ≠ T2) (h1 : H T1 = some (.tbl #[])) (h2 : H T2 = some (.tbl #[])) (hS : SqL K H a (ns.map V.int)) : spD K (SLaw2 T1 T2 q1 q2) [.ref a] H (fun v _ => v = .bl true) (fun _ _ _ => False) := by
  have e2 : del H T1 T2 = some (.tbl #[]) := by rw [del_ne (Ne.symm hn)]; exact h2
  have tab : ∀ (q : Str) (B : Hp), RepO K B (.dic (TabF q fun _ => True)) (.tbl #[]) := fun q B => .dic ⟨⟨#[], rfl, True.intro, fun p' cv h => by simp [codeAmong] at h⟩, trivial⟩ (fun B' _ => ⟨⟨#[], rfl, True.intro, fun p' cv h => by simp [codeAmong] at h⟩, trivial⟩) fun xs z => by cases z
  refine ⟨[], del (del H T1) T2, [(T1, .dic (TabF q1 fun _ => True)), (T2, .dic (TabF q2 fun _ => True))], [.scr ns], .cons (.scr (sqL_del e2 (sqL_del h1 hS))) .nil, ⟨fun b u e => ?_, fun c hc => ?_, fun c hc => ?_, by simpa using hn⟩, ns, rfl, rfl, fun M' v B' H' _ _ r => by cases r; rfl⟩
  · by_cases z : b = T2
    · rw [z, del_same] at e; cases e
    · rw [del_ne z] at e
      by_cases z : b = T1
      · rw [z, del_same] at e; cases e
      · rwa [del_ne z] at e
  · simp only [List.append_nil, List.mem_cons, List.not_mem_nil, or_false] at hc
    rcases hc with rfl | rfl
    · exact ⟨_, h1, tab _ _⟩
    · exact ⟨_, h2, tab _ _⟩
  · simp only [List.append_nil, List.mem_cons, List.not_mem_nil, or_false] at hc
    rcases hc with rfl | rfl
    · show del (del H T1) T2 T1 = none
      rw [del_ne hn, del_same]
    · exact del_same
end Dl
namespace Tc
open PySem PySem.Spec PyProof.Rows L2 Dl
/-! short words -/
local macro_rules | `(tactic| walk_at "at") => `(tactic| repeat' (first | with_reducible apply At.here | apply At.there))
local macro_rules | `(tactic| walk_at "put") => `(tactic| repeat' (first | with_reducible apply Put.here | apply Put.there))
local macro_rules | `(tactic| walk_at "wp") => `(tactic| repeat' (first | with_reducible apply Wp.nil | with_reducible apply Put.here | apply Wp.cons | apply Put.there))
local macro_rules | `(tactic| walk_at "cx") => `(tactic| repeat' (first | assumption | apply Ctx.blk | rfl))
local macro_rules | `(tactic| walk_at "v") => `(tactic| refine EM.var (by walk_at "cx") (by walk_at "at") ?_)
local macro_rules | `(tactic| walk_at "d") => `(tactic| dsimp only [RAdd, RSub, RMul, RMod, RDiv, RPow, RLt, RLe, RGt, RGe, REq, RNe, RInt, RLen, REqG, id, RIsN, RNotN, D.isN, RMax2, RMin2, RInt1])
local macro_rules | `(tactic| walk_at "e") => `(tactic| ((first | refine EM.var (by walk_at "cx") (by walk_at "at") ?_ | refine EM.int ?_ | refine EM.bl ?_ | refine EM.non ?_ | refine EM.str ?_ | refine EM.ix ix_seq dIx ?_ | refine EM.add ?_ | refine EM.sub ?_ | refine EM.mul ?_ | refine EM.mod ?_ | refine EM.fdiv ?_ | refine EM.pow ?_ | refine EM.lt ?_ | refine EM.le ?_ | refine EM.gt ?_ | refine EM.ge ?_ | refine EM.eq (by assumption) ?_ | refine EM.ne (by assumption) ?_ | refine EM.isN ?_ | refine EM.notN ?_ | refine EM.one ?_ | refine EM.tup ?_ | refine AM.cons ?_ | refine AM.nil ?_ | refine EM.neg ?_ | refine EM.not ?_ | refine EM.and ?_ | refine EM.or ?_ | refine EM.ife ?_ | refine TM.w (WM.and ?_) | refine TM.w (WM.or ?_) | refine WM.and1 ?_ | refine WM.or1 ?_ | refine WM.and ?_ | refine WM.or ?_ | refine TM.not ?_ | refine TM.lt ?_ | refine TM.le ?_ | refine TM.gt ?_ | refine TM.ge ?_ | refine TM.eq (by assumption) ?_ | refine TM.ne (by assumption) ?_ | refine TM.isN ?_ | refine TM.notN ?_ | refine TM.val ?_); try dsimp only [RAdd, RSub, RMul, RMod, RDiv, RPow, RLt, RLe, RGt, RGe, REq, RNe, RInt, RLen, REqG, id, RIsN, RNotN, D.isN, RMax2, RMin2, RInt1]))
local macro_rules | `(tactic| walk_at "es") => `(tactic| repeat ((first | refine EM.var (by walk_at "cx") (by walk_at "at") ?_ | refine EM.int ?_ | refine EM.bl ?_ | refine EM.non ?_ | refine EM.str ?_ | refine EM.ix ix_seq dIx ?_ | refine EM.add ?_ | refine EM.sub ?_ | refine EM.mul ?_ | refine EM.mod ?_ | refine EM.fdiv ?_ | refine EM.pow ?_ | refine EM.lt ?_ | refine EM.le ?_ | refine EM.gt ?_ | refine EM.ge ?_ | refine EM.eq (by assumption) ?_ | refine EM.ne (by assumption) ?_ | refine EM.isN ?_ | refine EM.notN ?_ | refine EM.one ?_ | refine EM.tup ?_ | refine AM.cons ?_ | refine AM.nil ?_ | refine EM.neg ?_ | refine EM.not ?_ | refine EM.and ?_ | refine EM.or ?_ | refine EM.ife ?_ | refine TM.w (WM.and ?_) | refine TM.w (WM.or ?_) | refine WM.and1 ?_ | refine WM.or1 ?_ | refine WM.and ?_ | refine WM.or ?_ | refine TM.not ?_ | refine TM.lt ?_ | refine TM.le ?_ | refine TM.gt ?_ | refine TM.ge ?_ | refine TM.eq (by assumption) ?_ | refine TM.ne (by assumption) ?_ | refine TM.isN ?_ | refine TM.notN ?_ | refine TM.val ?_); try dsimp only [RAdd, RSub, RMul, RMod, RDiv, RPow, RLt, RLe, RGt, RGe, REq, RNe, RInt, RLen, REqG, id, RIsN, RNotN, D.isN, RMax2, RMin2, RInt1]))
/-! the text by places -/
def top (i : Nat) : Stmt := PySem.Challenge.pw_twincount_k01_setups_refused.main.body.getD i (.Pass ⟨0, 0, 0, 0⟩)
abbrev s_BadSetup___init__ : Stmt := inClass (top 2) 0
abbrev s_BadStretch___init__ : Stmt := inClass (top 4) 0
abbrev s_BadText___init__ : Stmt := inClass (top 5) 0
abbrev s_read_as : Stmt := top 7
abbrev s_are_copies : Stmt := top 16
abbrev s_need_setup : Stmt := top 17
abbrev s_need_top : Stmt := top 18
abbrev s_row_for : Stmt := top 19
abbrev s_cost : Stmt := top 20
abbrev s_Counter___init__ : Stmt := inClass (top 24) 0
abbrev s_Counter_read : Stmt := inClass (top 24) 1
abbrev s_Counter_writes : Stmt := inClass (top 24) 2
abbrev s_Counter_power : Stmt := inClass (top 24) 3
abbrev s_Counter_fault : Stmt := inClass (top 24) 4
abbrev s_is_torn : Stmt := top 25
abbrev s_need_stretches : Stmt := top 26
abbrev s_run : Stmt := top 27
abbrev s_counter_at : Stmt := top 29
abbrev s_state_of : Stmt := top 30
abbrev s_ways_on : Stmt := top 31
abbrev s_first_fault : Stmt := top 32
abbrev s_judged : Stmt := top 33
abbrev s_held : Stmt := top 34
abbrev s_written : Stmt := top 36
abbrev s__law_taken : Stmt := top 38
abbrev s__law_row : Stmt := top 39
abbrev s__law_setup : Stmt := top 40
abbrev s__law_word : Stmt := top 41
abbrev s__law_why : Stmt := top 42
abbrev s__law_spoilt : Stmt := top 43
abbrev s__law_works : Stmt := top 44
abbrev s_law : Stmt := top 45
/-- the built-ins' names are free -/
structure Bn (mg : Str → Option Value) : Prop where
  sorted : mg "sorted" = none
  len : mg "len" = none
  range : mg "range" = none
  int : mg "int" = none
  list : mg "list" = none
  tuple : mg "tuple" = none
  max : mg "max" = none
  min : mg "min" = none
  isinstance : mg "isinstance" = none
  str : mg "str" = none
  sum : mg "sum" = none
  bool : mg "bool" = none
section
variable {X : Cx} {N : List Str} {sc : Scope} {ρ : Rho} {M : Mem} {P : D → Mem → Prop} {a b : Expr} {es : List Expr} {pos p1 p2 p3 p4 : Pos}
theorem e_isiTuple (c : Dl.Ctx X N sc) (T : Bn X.mg) (h : EM X a ρ M fun d M1 => ∃ t, d.tyMs M1 t ∧ P (.bl (Dl.isi t "tuple")) M1) (h1 : glB sc "tuple" = true := by decide +kernel) (h2 : glB sc "isinstance" = true := by decide +kernel) (he : starEach (a :: [.Name "tuple" p2]) X.env = (false, eval a X.env) :: starEach [.Name "tuple" p2] X.env := by rfl) : EM X (.Call (.Name "isinstance" p1) [a, .Name "tuple" p2] [] pos) ρ M P := EM.isi c T.isinstance T.tuple PyProof.Rows.boot_tuple (by decide) h h1 (by decide +kernel) (by decide +kernel) h2 he
theorem e_isiList (c : Dl.Ctx X N sc) (T : Bn X.mg) (h : EM X a ρ M fun d M1 => ∃ t, d.tyMs M1 t ∧ P (.bl (Dl.isi t "list")) M1) (h1 : glB sc "list" = true := by decide +kernel) (h2 : glB sc "isinstance" = true := by decide +kernel) (he : starEach (a :: [.Name "list" p2]) X.env = (false, eval a X.env) :: starEach [.Name "list" p2] X.env := by rfl) : EM X (.Call (.Name "isinstance" p1) [a, .Name "list" p2] [] pos) ρ M P := EM.isi c T.isinstance T.list PyProof.Rows.boot_list (by decide) h h1 (by decide +kernel) (by decide +kernel) h2 he
theorem e_isiBool (c : Dl.Ctx X N sc) (T : Bn X.mg) (h : EM X a ρ M fun d M1 => ∃ t, d.tyMs M1 t ∧ P (.bl (Dl.isi t "bool")) M1) (h1 : glB sc "bool" = true := by decide +kernel) (h2 : glB sc "isinstance" = true := by decide +kernel) (he : starEach (a :: [.Name "bool" p2]) X.env = (false, eval a X.env) :: starEach [.Name "bool" p2] X.env := by rfl) : EM X (.Call (.Name "isinstance" p1) [a, .Name "bool" p2] [] pos) ρ M P := EM.isi c T.isinstance T.bool PyProof.Rows.boot_bool (by decide) h h1 (by decide +kernel) (by decide +kernel) h2 he
theorem e_isiStr (c : Dl.Ctx X N sc) (T : Bn X.mg) (h : EM X a ρ M fun d M1 => ∃ t, d.tyMs M1 t ∧ P (.bl (Dl.isi t "str")) M1) (h1 : glB sc "str" = true := by decide +kernel) (h2 : glB sc "isinstance" = true := by decide +kernel) (he : starEach (a :: [.Name "str" p2]) X.env = (false, eval a X.env) :: starEach [.Name "str" p2] X.env := by rfl) : EM X (.Call (.Name "isinstance" p1) [a, .Name "str" p2] [] pos) ρ M P := EM.isi c T.isinstance T.str PyProof.Rows.boot_str (by decide) h h1 (by decide +kernel) (by decide +kernel) h2 he
theorem e_isiInt (c : Dl.Ctx X N sc) (T : Bn X.mg) (h : EM X a ρ M fun d M1 => ∃ t, d.tyMs M1 t ∧ P (.bl (Dl.isi t "int")) M1) (h1 : glB sc "int" = true := by decide +kernel) (h2 : glB sc "isinstance" = true := by decide +kernel) (he : starEach (a :: [.Name "int" p2]) X.env = (false, eval a X.env) :: starEach [.Name "int" p2] X.env := by rfl) : EM X (.Call (.Name "isinstance" p1) [a, .Name "int" p2] [] pos) ρ M P := EM.isi c T.isinstance T.int PyProof.Rows.boot_int (by decide) h h1 (by decide +kernel) (by decide +kernel) h2 he
/-- isinstance(x, (tuple, list)) -/
theorem anyB_of {t : String} (h : t ∈ sixTy) : Dl.anyB t ["tuple", "list"] = some (Dl.isi t "tuple" || Dl.isi t "list") := by
  simp only [Dl.anyB, kit_all t h "tuple" (by decide), kit_all t h "list" (by decide)]
  cases Dl.isi t "tuple" <;> cases Dl.isi t "list" <;> rfl
theorem e_isiTL {x1 : _} (c : Dl.Ctx X N sc) (T : Bn X.mg) (h : EM X a ρ M fun d M1 => ∃ t, d.tyMs M1 t ∧ P (.bl (Dl.isi t "tuple" || Dl.isi t "list")) M1) (h1 : glB sc "tuple" = true := by decide +kernel) (h3 : glB sc "list" = true := by decide +kernel) (h2 : glB sc "isinstance" = true := by decide +kernel)
    (he : starEach (a :: [.Tuple [.Name "tuple" p2, .Name "list" p3] x1 p4]) X.env = (false, eval a X.env) :: starEach [.Tuple [.Name "tuple" p2, .Name "list" p3] x1 p4] X.env := by rfl) : EM X (.Call (.Name "isinstance" p1) [a, .Tuple [.Name "tuple" p2, .Name "list" p3] x1 p4] [] pos) ρ M P := by
  refine EM.callB c call_isiB dIsi T.isinstance PyProof.Rows.boot_isinstance (AM.cons (h.to fun d M1 ⟨t, ht, hP⟩ => AM.cons (EM.tup (AM.cons (EM.bltn (v := .ty "tuple") c T.tuple PyProof.Rows.boot_tuple rfl (AM.cons (EM.bltn (v := .ty "list") c T.list PyProof.Rows.boot_list rfl (AM.nil ⟨by decide, AM.nil ?_⟩) h3)) h1)))) he) h2 (by decide +kernel) (by decide +kernel) he
  exact ⟨d, _, t, _, rfl, ht.2, hP, .inr ⟨_, ["tuple", "list"], rfl, rfl, anyB_of ht.1⟩⟩
theorem e_len (c : Dl.Ctx X N sc) (T : Bn X.mg) (h : EM X a ρ M fun d M1 => RLen [d] M1 P) (h2 : glB sc "len" = true := by decide +kernel) (he : starEach [a] X.env = [(false, eval a X.env)] := by rfl) : EM X (.Call (.Name "len" p1) [a] [] pos) ρ M P := EM.callB c call_lenA dLen T.len PySem.boot_len (AM.cons (h.to fun d M1 h => AM.nil h) he) h2 (by decide +kernel) (by decide +kernel) he
theorem e_max1 (c : Dl.Ctx X N sc) (T : Bn X.mg) (h : EM X a ρ M fun d M1 => RMaxL [d] M1 P) (h2 : glB sc "max" = true := by decide +kernel) (he : starEach [a] X.env = [(false, eval a X.env)] := by rfl) : EM X (.Call (.Name "max" p1) [a] [] pos) ρ M P := EM.callB c (cr_max c.calm) dMaxL T.max PyProof.Rows.boot_max (AM.cons (h.to fun d M1 h => AM.nil h) he) h2 (by decide +kernel) (by decide +kernel) he
theorem e_min1 (c : Dl.Ctx X N sc) (T : Bn X.mg) (h : EM X a ρ M fun d M1 => RMinL [d] M1 P) (h2 : glB sc "min" = true := by decide +kernel) (he : starEach [a] X.env = [(false, eval a X.env)] := by rfl) : EM X (.Call (.Name "min" p1) [a] [] pos) ρ M P := EM.callB c (cr_min c.calm) dMinL T.min PyProof.Rows.boot_min (AM.cons (h.to fun d M1 h => AM.nil h) he) h2 (by decide +kernel) (by decide +kernel) he
theorem e_max2 (c : Dl.Ctx X N sc) (T : Bn X.mg) (h : EM X a ρ M fun d M1 => EM X b ρ M1 fun e M2 => RMax2 [d, e] M2 P) (h2 : glB sc "max" = true := by decide +kernel) (he : starEach [a, b] X.env = (false, eval a X.env) :: starEach [b] X.env := by rfl) (he2 : starEach [b] X.env = [(false, eval b X.env)] := by rfl) (hpl : (backTo pos (starEach [b] X.env)).any (·.1) = false := by rfl) : EM X (.Call (.Name "max" p1) [a, b] [] pos) ρ M P := EM.callB c (call_max2 c.calm) dMax2 T.max PyProof.Rows.boot_max (AM.cons (h.to fun d M1 h => AM.cons (h.to fun e M2 h => AM.nil h) he2) he) h2 (by decide +kernel) (by decide +kernel) he hpl
theorem e_min2 (c : Dl.Ctx X N sc) (T : Bn X.mg) (h : EM X a ρ M fun d M1 => EM X b ρ M1 fun e M2 => RMin2 [d, e] M2 P) (h2 : glB sc "min" = true := by decide +kernel) (he : starEach [a, b] X.env = (false, eval a X.env) :: starEach [b] X.env := by rfl) (he2 : starEach [b] X.env = [(false, eval b X.env)] := by rfl) (hpl : (backTo pos (starEach [b] X.env)).any (·.1) = false := by rfl) : EM X (.Call (.Name "min" p1) [a, b] [] pos) ρ M P := EM.callB c (call_min2 c.calm) dMin2 T.min PyProof.Rows.boot_min (AM.cons (h.to fun d M1 h => AM.cons (h.to fun e M2 h => AM.nil h) he2) he) h2 (by decide +kernel) (by decide +kernel) he hpl
theorem e_int (c : Dl.Ctx X N sc) (T : Bn X.mg) (h : EM X a ρ M fun d M1 => RInt1 [d] M1 P) (h2 : glB sc "int" = true := by decide +kernel) (he : starEach [a] X.env = [(false, eval a X.env)] := by rfl) : EM X (.Call (.Name "int" p1) [a] [] pos) ρ M P := EM.callT c call_int1 dInt1 T.int PyProof.Rows.boot_int (AM.cons (h.to fun d M1 h => AM.nil h) he) h2 (by decide +kernel) (by decide +kernel) he
/-- list(x), as a new list that may change -/
theorem e_listM (c : Dl.Ctx X N sc) (T : Bn X.mg) (h : EM X a ρ M fun d M1 => RListOf [d] M1 P) (h2 : glB sc "list" = true := by decide +kernel) (he : starEach [a] X.env = [(false, eval a X.env)] := by rfl) : EM X (.Call (.Name "list" p1) [a] [] pos) ρ M P := EM.callT c call_list_of dListOf T.list PyProof.Rows.boot_list (AM.cons (h.to fun d M1 h => AM.nil h) he) h2 (by decide +kernel) (by decide +kernel) he
theorem e_tuple (c : Dl.Ctx X N sc) (T : Bn X.mg) (h : EM X a ρ M fun d M1 => RTupOf [d] M1 P) (h2 : glB sc "tuple" = true := by decide +kernel) (he : starEach [a] X.env = [(false, eval a X.env)] := by rfl) : EM X (.Call (.Name "tuple" p1) [a] [] pos) ρ M P := EM.callT c call_tuple_of dTupOf T.tuple PyProof.Rows.boot_tuple (AM.cons (h.to fun d M1 h => AM.nil h) he) h2 (by decide +kernel) (by decide +kernel) he
theorem e_sum (c : Dl.Ctx X N sc) (T : Bn X.mg) (h : EM X a ρ M fun d M1 => RSumI [d] M1 P) (h2 : glB sc "sum" = true := by decide +kernel) (he : starEach [a] X.env = [(false, eval a X.env)] := by rfl) : EM X (.Call (.Name "sum" p1) [a] [] pos) ρ M P := EM.callB c (cr_sum c.calm) dSumI T.sum PyProof.Rows.boot_sum (AM.cons (h.to fun d M1 h => AM.nil h) he) h2 (by decide +kernel) (by decide +kernel) he
theorem i_range1 {tg : Expr} {P : List D → Mem → Prop} (c : Dl.Ctx X N sc) (T : Bn X.mg) (h : EM X a ρ M fun d M1 => ∃ j : Int, d = .int j ∧ (-(2 ^ 62) ≤ j ∧ j < 2 ^ 62) ∧ P (rngD 0 j.toNat) M1) (hg : glB sc "range" = true := by decide +kernel) (hs : starEach [a] X.env = [(false, eval a X.env)] := by rfl) : IW X tg (.Call (.Name "range" p1) [a] [] pos) ρ M P :=
  IW.range1 c T.range (AM.cons (h.to fun d M1 ⟨j, e, b, p⟩ => AM.nil ⟨j, by rw [e], b, p⟩) hs) hg hs
theorem i_range2 {tg : Expr} {P : List D → Mem → Prop} (c : Dl.Ctx X N sc) (T : Bn X.mg) (h : EM X a ρ M fun d M1 => EM X b ρ M1 fun e M2 => ∃ i j : Int, d = .int i ∧ e = .int j ∧ (-(2 ^ 62) ≤ i ∧ i < 2 ^ 62 ∧ -(2 ^ 62) ≤ j ∧ j < 2 ^ 62) ∧ P (rngD i (j - i).toNat) M2) (hg : glB sc "range" = true := by decide +kernel) (hs : starEach [a, b] X.env = [(false, eval a X.env), (false, eval b X.env)] := by rfl) (hs2 : starEach [b] X.env = [(false, eval b X.env)] := by rfl) : IW X tg (.Call (.Name "range" p1) [a, b] [] pos) ρ M P :=
  IW.range2 c T.range (AM.cons (h.to fun d M1 h => AM.cons (h.to fun e M2 ⟨i, j, e1, e2, b, p⟩ => AM.nil ⟨i, j, by rw [e1, e2], b, p⟩) hs2) (by rw [hs, hs2])) hg hs hs2
end
theorem get_map {α β : Type} {f : α → β} {l : List α} {i : Nat} {y : β} (h : (l.map f)[i]? = some y) : ∃ x, l[i]? = some x ∧ y = f x := by
  rw [List.getElem?_map] at h
  cases e : l[i]? with
  | none => rw [e] at h; cases h
  | some x => rw [e] at h; exact ⟨x, rfl, (Option.some.inj h).symm⟩
local macro_rules | `(tactic| walk_at "c") => `(tactic| ((first | refine e_len (by walk_at "cx") (by assumption) ?_ | refine e_isiTuple (by walk_at "cx") (by assumption) ?_ | refine e_isiList (by walk_at "cx") (by assumption) ?_ | refine e_isiBool (by walk_at "cx") (by assumption) ?_ | refine e_isiStr (by walk_at "cx") (by assumption) ?_ | refine e_isiInt (by walk_at "cx") (by assumption) ?_ | refine e_isiTL (by walk_at "cx") (by assumption) ?_ | refine e_int (by walk_at "cx") (by assumption) ?_ | refine e_max2 (by walk_at "cx") (by assumption) ?_ | refine e_min2 (by walk_at "cx") (by assumption) ?_ | refine e_max1 (by walk_at "cx") (by assumption) ?_ | refine e_min1 (by walk_at "cx") (by assumption) ?_ | refine e_tuple (by walk_at "cx") (by assumption) ?_ | refine e_sum (by walk_at "cx") (by assumption) ?_)))
local macro_rules | `(tactic| walk_at "ty") => `(tactic| (walk_at "c"; walk_at "e"; refine ⟨_, tyMs_of rfl, ?_⟩))
theorem scReadAs : FnScope ["reader", "cells", "good", "cell"] ["reader", "cells"] (defScope s_read_as) := ⟨rfl, rfl, rfl, by decide +kernel, rfl, by decide +kernel, by decide +kernel⟩
/-- the numbers of the cells that aren't broken -/
def nums (cs : List (Option Int)) : List Int := (cs.filter Option.isSome).map fun c => c.getD 0
def goodOf (cs : List (Option Int)) : List Int := (nums cs).mergeSort
def readAs (r : Str) (cs : List (Option Int)) : Option Int :=
  let g := goodOf cs
  if g = [] then none else if r = "most" then some (g.getD (g.length - 1) 0) else if r = "least" then some (g.getD 0 0) else some (g.getD ((g.length - 1) / 2) 0)
def cellsD (cs : List (Option Int)) : D := .lst (cs.map cellD)
def SReadAs : DA := fun ds M P => ∃ (r : Str) (cs : List (Option Int)), ds = [.str r, cellsD cs] ∧ cs.length ≤ 1000 ∧ P (cellD (readAs r cs)) M
theorem monoReadAs : DMono SReadAs := fun ds M P P' h ⟨r, cs, e, hl, p⟩ => ⟨r, cs, e, hl, h _ _ p⟩
theorem lenReadAs : DLen SReadAs 2 := fun ds M P ⟨r, cs, e, hl, p⟩ => by rw [e] <;> rfl
theorem goodOf_is {cs : List (Option Int)} {g : List Int} (h1 : g.Perm (nums cs)) (h2 : g.Pairwise (· ≤ ·)) : g = goodOf cs := by
  refine List.Perm.eq_of_pairwise (fun x y _ _ h1 h2 => Int.le_antisymm h1 h2) h2 ?_ (h1.trans (List.mergeSort_perm _ _).symm)
  have h := List.pairwise_mergeSort (le := fun a b : Int => decide (a ≤ b)) (fun a b c h1 h2 => by simp at *; omega) (fun a b => by simp; omega) (nums cs)
  exact h.imp fun h => by simpa using h
theorem getD_at {l : List Int} {i : Nat} (h : i < l.length) : (l.map D.int)[i]? = some (.int (l.getD i 0)) := by
  rw [List.getElem?_map, List.getD_eq_getElem?_getD, List.getElem?_eq_getElem h] <;> rfl
theorem ok_readAs {P : Program} {w : World} {K : PySem.W.Frag} {mg : Str → Option Value} {base : Heap} {f : Addr} {fd : FuncData} (F : Fun K "read_as" "read_as" s_read_as f fd) (hm : mg "read_as" = some (.ref f)) (hb : Binds K fd ["reader", "cells"] []) (z1 : mg "sorted" = none) (z2 : mg "len" = none) : Gd P w K mg base "read_as" 1 ["reader", "cells"] SReadAs := by
  refine ok_def F scReadAs hm hb monoReadAs lenReadAs ?_
  rintro X rfl rfl rfl rfl rfl c hr ds M Q ⟨r, cs, rfl, hl, p⟩
  have hu := hr.units
  show SM X _ [some (.str r), some (cellsD cs), none, none] M _
  refine SM.seq (S1.set c ?_)
  refine EM.fz (EM.callB c cr_sortedI dSortedI z1 PyProof.Rows.boot_sorted (AM.cons ?_))
  refine EM.lcFil (α := Option Int) c (by walk_at "wp") (IW.list ?_)
  walk_at "e"
  refine ⟨_, rfl, cs, cellD, fun c => .int (c.getD 0), Option.isSome, rfl, by omega, fun cell _ => ⟨_, by walk_at "put", fun s H0 C cl fp => ?_, fun hs s H0 C cl fp => ?_⟩, ?_⟩
  · walk_at "e"; walk_at "e"; walk_at "e"
    cases cell <;> exact ⟨_, rfl, rfl, rfl⟩
  · walk_at "e"
    cases cell with
    | none => cases hs
    | some i => exact ⟨rfl, rfl⟩
  walk_at "e"
  refine ⟨nums cs, by unfold nums; rw [List.map_map] <;> rfl, fun g a h1 h2 => ?_⟩
  have hg := goodOf_is h1 h2
  subst hg
  refine ⟨a, 0, _, rfl, rfl, _, by walk_at "put", ?_⟩
  dsimp only [List.eraseIdx]
  -- if good == []
  refine SM.seq (S1.ife ?_)
  walk_at "e"; walk_at "e"
  refine EM.lst ?_
  walk_at "e"
  refine ⟨by decide, .lst ((goodOf cs).map D.int), .lst [], .same _, .same _, (Okn.lmap (n := 0) fun i _ => .int i).ok, Okn.ok (n := 1) .nilL, _, rfl, ?_⟩
  rw [eqv_nilL]
  have hR : readAs r cs = (if goodOf cs = [] then none else if r = "most" then some ((goodOf cs).getD ((goodOf cs).length - 1) 0) else if r = "least" then some ((goodOf cs).getD 0 0) else some ((goodOf cs).getD (((goodOf cs).length - 1) / 2) 0)) := rfl
  by_cases h0 : goodOf cs = []
  · rw [h0]
    rw [if_pos h0] at hR
    refine ifT rfl ?_
    refine SM.last (S1.ret ?_)
    walk_at "e"
    rw [hR] at p
    exact p
  rw [if_neg h0] at hR
  have hlen : 0 < (goodOf cs).length := List.length_pos_iff.mpr h0
  refine ifF (by simpa using h0) ?_
  refine SM.nil ?_
  -- if reader == 'most'
  refine SM.seq (S1.ife ?_)
  walk_at "e"; walk_at "e"; walk_at "e"
  refine ⟨_, rfl, ?_⟩
  by_cases h1 : r = "most"
  · refine ifT (decide_eq_true h1) ?_
    rw [if_pos h1] at hR
    refine SM.last (S1.ret ?_)
    walk_at "e"; walk_at "e"; walk_at "e"; walk_at "e"
    refine ⟨_, rfl, .int ((goodOf cs).getD ((goodOf cs).length - 1) 0), ?_, ?_⟩
    · unfold L2.atI L2.ixN
      rw [if_neg (by decide), if_pos (by rw [List.length_map]; omega), List.length_map]
      show ((goodOf cs).map D.int)[(-1 + ((goodOf cs).length : Int)).toNat]? = _
      rw [show (-1 + ((goodOf cs).length : Int)).toNat = (goodOf cs).length - 1 by omega]
      exact getD_at (by omega)
    · rw [hR] at p
      exact p
  refine ifF (decide_eq_false h1) ?_
  rw [if_neg h1] at hR
  refine SM.nil ?_
  refine SM.last (S1.ret ?_)
  walk_at "e"; walk_at "e"; walk_at "e"; walk_at "e"
  refine ⟨_, rfl, ?_⟩
  by_cases h2 : r = "least"
  · refine ifT (decide_eq_true h2) ?_
    rw [if_pos h2] at hR
    walk_at "e"; walk_at "e"; walk_at "e"
    refine ⟨_, atI_nat (j := 0) (getD_at hlen), ?_⟩
    rw [hR] at p
    exact p
  · refine ifF (decide_eq_false h2) ?_
    rw [if_neg h2] at hR
    walk_at "e"; walk_at "e"; walk_at "e"; walk_at "e"
    refine EM.callB c call_lenA dLen z2 PySem.boot_len ?_
    walk_at "e"; walk_at "e"; walk_at "e"; walk_at "e"
    refine ⟨trivial, ?_⟩
    walk_at "e"
    refine ⟨⟨by decide, by decide⟩, _, atI_is (((goodOf cs).length - 1) / 2) (by rw [List.length_map]; omega) (getD_at (l := goodOf cs) (by omega)), ?_⟩
    rw [hR] at p
    exact p
/-! ### the law's script, cell by cell -/
structure Row where
  ns : List Int
  n : Nat
  seed : Int
def Row.mo (r : Row) : MO := .lst [.scr r.ns, .int (r.n : Int), .int r.seed]
def taken (r : Row) (m : Int) : Int × Row :=
  if r.ns.length < r.n + 1 then ((r.seed * 48271 + 11) % 2147483647 / 7 % m, ⟨r.ns, r.n + 1, (r.seed * 48271 + 11) % 2147483647⟩)
  else (r.ns.getD r.n 0 % m, ⟨r.ns, r.n + 1, (r.seed * 48271 + r.ns.getD r.n 0 + 11) % 2147483647⟩)
theorem taken_lt (r : Row) {m : Int} (h : 0 < m) : 0 ≤ (taken r m).1 ∧ (taken r m).1 < m := by
  unfold taken
  split
  · exact ⟨Int.emod_nonneg _ (by omega), Int.emod_lt_of_pos _ h⟩
  · exact ⟨Int.emod_nonneg _ (by omega), Int.emod_lt_of_pos _ h⟩
def STaken : DA := fun ds M P => ∃ (p : Addr) (r : Row) (m : Int), ds = [.raw (.ref p), .int m] ∧ M = [(p, r.mo)] ∧ 0 < m ∧ P (.int (taken r m).1) [(p, (taken r m).2.mo)]
theorem monoTaken : DMono STaken := fun ds M P P' h ⟨p, r, m, e1, e2, h0, q⟩ => ⟨p, r, m, e1, e2, h0, h _ _ q⟩
theorem lenTaken : DLen STaken 2 := fun ds M P ⟨p, r, m, e1, e2, h0, q⟩ => by rw [e1] <;> rfl
abbrev nTaken : List Str := ["_law_row_here", "_law_many", "_law_cell"]
theorem sc_taken : FnScope nTaken ["_law_row_here", "_law_many"] (defScope s__law_taken) := ⟨rfl, rfl, rfl, by decide +kernel, rfl, by decide +kernel, by decide +kernel⟩
theorem ok_taken {P : Program} {w : World} {K : PySem.W.Frag} {mg : Str → Option Value} {base : Heap} {f : Addr} {fd : FuncData} (F : Fun K "_law_taken" "_law_taken" s__law_taken f fd) (hm : mg "_law_taken" = some (.ref f)) (hb : Binds K fd ["_law_row_here", "_law_many"] []) (T : Bn mg) : Gd P w K mg base "_law_taken" 1 ["_law_row_here", "_law_many"] STaken := by
  refine ok_def F sc_taken hm hb monoTaken lenTaken ?_
  rintro X rfl rfl rfl rfl rfl c hr ds M Q ⟨p, r, m, rfl, rfl, h0, hq⟩
  have hu := hr.units
  show SM X _ [some (.raw (.ref p)), some (.int m), none] [(p, .lst [.scr r.ns, .int (r.n : Int), .int r.seed])] _
  -- row[1] = row[1] + 1
  refine SM.seq (S1.sub ?_)
  walk_at "es"
  refine ⟨0, _, _, rfl, rfl, ?_⟩
  walk_at "es"
  refine ⟨p, 0, _, 1, 1, rfl, rfl, rfl, rfl, ?_⟩
  dsimp only [List.set]
  -- if row[1] > len(row[0])
  refine SM.seq (S1.ife ?_)
  walk_at "es"
  refine ⟨0, _, _, rfl, rfl, ?_⟩
  refine EM.callB c call_lenA dLen T.len PySem.boot_len ?_
  walk_at "es"
  refine ⟨0, _, _, rfl, rfl, ?_⟩
  walk_at "e"
  refine ⟨trivial, _, rfl, ?_⟩
  by_cases hc : r.ns.length < r.n + 1
  · have ht : taken r m = ((r.seed * 48271 + 11) % 2147483647 / 7 % m, ⟨r.ns, r.n + 1, (r.seed * 48271 + 11) % 2147483647⟩) := by unfold taken; rw [if_pos hc]
    refine ifT (decide_eq_true (by omega)) ?_
    refine SM.seq (S1.sub ?_)
    walk_at "es"
    refine ⟨0, _, _, rfl, rfl, ?_⟩
    walk_at "e"
    refine ⟨.inr (by decide), ?_⟩
    walk_at "es"
    refine ⟨by show (0 : Int) < 2147483647; decide, ?_⟩
    walk_at "es"
    refine ⟨p, 0, _, 2, 2, rfl, rfl, rfl, rfl, ?_⟩
    dsimp only [List.set]
    refine SM.last (S1.ret ?_)
    walk_at "es"
    refine ⟨0, _, _, rfl, rfl, ?_⟩
    walk_at "e"
    refine ⟨⟨by decide, by decide⟩, ?_⟩
    walk_at "e"
    refine ⟨h0, ?_⟩
    rw [ht] at hq
    exact hq
  · have ht : taken r m = (r.ns.getD r.n 0 % m, ⟨r.ns, r.n + 1, (r.seed * 48271 + r.ns.getD r.n 0 + 11) % 2147483647⟩) := by unfold taken; rw [if_neg hc]
    have hn : r.ns[r.n]? = some (r.ns.getD r.n 0) := by rw [List.getD_eq_getElem?_getD, List.getElem?_eq_getElem (by omega)] <;> rfl
    refine ifF (decide_eq_false (by omega)) ?_
    refine SM.nil ?_
    refine SM.seq (S1.set c ?_)
    walk_at "es"
    refine ⟨0, _, _, rfl, rfl, ?_⟩
    walk_at "es"
    refine ⟨0, _, _, rfl, rfl, ?_⟩
    walk_at "e"
    refine ⟨trivial, _, atI_is r.n (by omega) hn, ?_⟩
    refine ⟨_, by walk_at "put", ?_⟩
    refine SM.seq (S1.sub ?_)
    walk_at "es"
    refine ⟨0, _, _, rfl, rfl, ?_⟩
    walk_at "e"
    refine ⟨.inr (by decide), ?_⟩
    walk_at "es"
    refine ⟨by show (0 : Int) < 2147483647; decide, ?_⟩
    walk_at "es"
    refine ⟨p, 0, _, 2, 2, rfl, rfl, rfl, rfl, ?_⟩
    dsimp only [List.set]
    refine SM.last (S1.ret ?_)
    walk_at "es"
    refine ⟨h0, ?_⟩
    rw [ht] at hq
    exact hq
/-! ### setups -/
structure Setup where
  kind : Str
  copies : Int
  reader : Str
  turns : List (List Int)
  mends : List Int
abbrev rowD (r : List Int) : D := .tup (r.map D.int)
def setupD (s : Setup) : D := .tup [.str s.kind, .int s.copies, .str s.reader, .tup (s.turns.map rowD), rowD s.mends]
def kinds : List Str := ["checked", "plain"]
def readers : List Str := ["most", "least", "middle"]
/-- some numbers are copies, not too many -/
def areC (l : List Int) (n : Int) : Bool := decide (l.length ≤ 6) && decide ((l.filter fun x => !(decide (0 ≤ x) && decide (x < n))) = [])
structure Valid (s : Setup) : Prop where
  kind : s.kind ∈ kinds
  copies : 1 ≤ s.copies ∧ s.copies ≤ 3
  reader : s.reader ∈ readers
  turns : 1 ≤ s.turns.length ∧ s.turns.length ≤ 3
  rows : ∀ r ∈ s.turns, r ≠ [] ∧ areC r s.copies = true
  mends : areC s.mends s.copies = true
theorem areC_len {l : List Int} {n : Int} (h : areC l n = true) : l.length ≤ 6 := by
  unfold areC at h
  rw [Bool.and_eq_true] at h
  exact of_decide_eq_true h.1
theorem areC_in {l : List Int} {n : Int} (h : areC l n = true) : ∀ x ∈ l, 0 ≤ x ∧ x < n := by
  unfold areC at h
  rw [Bool.and_eq_true] at h
  have h2 := of_decide_eq_true h.2
  rw [List.filter_eq_nil_iff] at h2
  intro x hx
  have := h2 x hx
  simp at this
  exact this
/-- the module's constants -/
structure Cs (K : PySem.W.Frag) (mg : Str → Option Value) : Prop where
  kinds : KT K mg "KINDS" kinds
  readers : KT K mg "READERS" readers
  copies : KI mg "MOST_COPIES" 3
  turns : KI mg "MOST_TURNS" 3
  writes : KI mg "MOST_WRITES" 6
def SAreC : DA := fun ds M P => ∃ (l : List Int) (n : Int), ds = [rowD l, .int n] ∧ l.length ≤ 1000000 ∧ P (.bl (areC l n)) M
theorem monoAreC : DMono SAreC := fun ds M P P' h ⟨l, n, e, hl, p⟩ => ⟨l, n, e, hl, h _ _ p⟩
theorem lenAreC : DLen SAreC 2 := fun ds M P ⟨l, n, e, hl, p⟩ => by rw [e] <;> rfl
theorem sc_arec : FnScope ["some", "copies", "one"] ["some", "copies"] (defScope s_are_copies) := ⟨rfl, rfl, rfl, by decide +kernel, rfl, by decide +kernel, by decide +kernel⟩
theorem ok_arec {P : Program} {w : World} {K : PySem.W.Frag} {mg : Str → Option Value} {base : Heap} {f : Addr} {fd : FuncData} (F : Fun K "are_copies" "are_copies" s_are_copies f fd) (hm : mg "are_copies" = some (.ref f)) (hb : Binds K fd ["some", "copies"] []) (T : Bn mg) (C : Cs K mg) : Gd P w K mg base "are_copies" 1 ["some", "copies"] SAreC := by
  refine ok_def F sc_arec hm hb monoAreC lenAreC ?_
  rintro X rfl rfl rfl rfl rfl c hr ds M Q ⟨l, n, rfl, hl, hq⟩
  have hu := hr.units
  show SM X _ [some (rowD l), some (.int n), none] M _
  refine SM.last (S1.ret (EM.and (EM.le ?_)))
  walk_at "c"; walk_at "e"
  refine EM.gint c C.writes ?_
  refine ⟨trivial, _, rfl, ?_⟩
  rw [List.length_map]
  unfold areC at hq
  by_cases h : l.length ≤ 6
  · rw [decide_eq_true h, Bool.true_and] at hq
    refine ifT (decide_eq_true (by omega)) (EM.one (EM.eq hu ?_))
    refine EM.lcFil (α := Int) c (by walk_at "wp") (IW.tup ?_)
    walk_at "e"
    refine ⟨_, rfl, l, D.int, D.int, fun x => !(decide (0 ≤ x) && decide (x < n)), rfl, by omega, fun x _ => ⟨_, by walk_at "put", fun s H0 C cl fp => ?_, fun hs s H0 C cl fp => ?_⟩, ?_⟩
    · refine TM.not (TM.chLeLt ?_)
      walk_at "es"
      refine ⟨trivial, _, rfl, ?_⟩
      by_cases h1 : 0 ≤ x
      · refine ifT (decide_eq_true h1) ?_
        walk_at "e"
        refine ⟨trivial, _, rfl, ?_, rfl⟩
        rw [decide_eq_true h1, Bool.true_and]
      · refine ifF (decide_eq_false h1) ⟨_, rfl, ?_, rfl⟩
        rw [decide_eq_false h1, Bool.false_and]
    · walk_at "e"
      exact ⟨rfl, rfl⟩
    · refine EM.lst ?_
      walk_at "e"
      refine ⟨by decide, .lst (_ : List D), .lst [], .same _, .same _, (Okn.lmap (n := 0) fun i _ => .int i).ok, Okn.ok (n := 1) .nilL, ?_⟩
      rw [eqv_nilL]
      have e : ((l.filter fun x => !(decide (0 ≤ x) && decide (x < n))).map D.int).isEmpty = decide ((l.filter fun x => !(decide (0 ≤ x) && decide (x < n))) = []) := by
        cases l.filter fun x => !(decide (0 ≤ x) && decide (x < n)) <;> simp
      rw [e]
      exact hq
  · rw [decide_eq_false h, Bool.false_and] at hq
    exact ifF (decide_eq_false (by omega)) hq
def SNeedSetup : DA := fun ds M P => ∃ s : Setup, ds = [setupD s] ∧ Valid s ∧ P .non M
theorem monoNeedSetup : DMono SNeedSetup := fun ds M P P' h ⟨s, e, v, p⟩ => ⟨s, e, v, h _ _ p⟩
theorem lenNeedSetup : DLen SNeedSetup 1 := fun ds M P ⟨s, e, v, p⟩ => by rw [e] <;> rfl
abbrev nNeedSetup : List Str := ["setup", "kind", "copies", "reader", "turns", "mends", "row"]
theorem sc_needsetup : FnScope nNeedSetup ["setup"] (defScope s_need_setup) := ⟨rfl, rfl, rfl, by decide +kernel, rfl, by decide +kernel, by decide +kernel⟩
theorem ok_needsetup {P : Program} {w : World} {K : PySem.W.Frag} {mg : Str → Option Value} {base : Heap} {f : Addr} {fd : FuncData} (F : Fun K "need_setup" "need_setup" s_need_setup f fd) (hm : mg "need_setup" = some (.ref f)) (hb : Binds K fd ["setup"] []) (T : Bn mg) (C : Cs K mg)
    (Ga : Gd P w K mg base "are_copies" 1 ["some", "copies"] SAreC) : Gd P w K mg base "need_setup" 2 ["setup"] SNeedSetup := by
  refine ok_def F sc_needsetup hm hb monoNeedSetup lenNeedSetup ?_
  rintro X rfl rfl rfl rfl rfl c hr ds M Q ⟨s, rfl, v, hq⟩
  have hu := hr.units
  show SM X _ [some (setupD s), none, none, none, none, none, none] M _
  refine SM.seq (S1.asg c ?_)
  walk_at "e"
  refine ⟨_, _, GM.tup c (GMs.cons (GM.name c (by walk_at "put")) (GMs.cons (GM.name c (by walk_at "put")) (GMs.cons (GM.name c (by walk_at "put")) (GMs.cons (GM.name c (by walk_at "put")) (GMs.cons (GM.name c (by walk_at "put")) GMs.nil))))), ?_⟩
  refine SM.seq (S1.ife (TM.niS ?_))
  walk_at "e"
  refine EM.gtup c C.kinds ?_
  refine ⟨_, kinds, rfl, .inl rfl, _, rfl, ifF (by rw [decide_eq_true v.kind] <;> rfl) (SM.nil ?_)⟩
  refine SM.seq (S1.ife (TM.not (TM.chLeLe ?_)))
  walk_at "es"
  refine ⟨trivial, _, rfl, ifT (decide_eq_true v.copies.1) ?_⟩
  refine EM.gint c C.copies ⟨trivial, _, rfl, ifF (by rw [decide_eq_true v.copies.2] <;> rfl) (SM.nil ?_)⟩
  refine SM.seq (S1.ife (TM.niS ?_))
  walk_at "e"
  refine EM.gtup c C.readers ?_
  refine ⟨_, readers, rfl, .inl rfl, _, rfl, ifF (by rw [decide_eq_true v.reader] <;> rfl) (SM.nil ?_)⟩
  refine SM.seq (S1.ife (TM.not (TM.chLeLe ?_)))
  walk_at "es"; walk_at "c"; walk_at "e"
  refine ⟨trivial, _, rfl, ifT (decide_eq_true (by rw [List.length_map]; have := v.turns.1; omega)) ?_⟩
  refine EM.gint c C.turns ⟨trivial, _, rfl, ifF (by rw [decide_eq_true (by rw [List.length_map]; have := v.turns.2; omega)] <;> rfl) (SM.nil ?_)⟩
  refine SM.seq (S1.ife (TM.ne hu ?_))
  refine EM.lcFil (α := List Int) c (by walk_at "wp") (IW.tup ?_)
  walk_at "e"
  refine ⟨_, rfl, s.turns, rowD, rowD, fun _ => false, rfl, by have := v.turns.2; omega, fun x hx => ⟨_, by walk_at "put", fun s1 H0 C1 cl fp => ?_, fun hs => by cases hs⟩, ?_⟩
  · have hx2 := v.rows x hx
    have hx3 := areC_len hx2.2
    refine TM.w (WM.or (TM.eq hu ?_))
    walk_at "c"; walk_at "es"
    rw [List.length_map]
    refine ⟨_, rfl, ifF (decide_eq_false (by have := List.length_pos_iff.mpr hx2.1; omega)) (WM.or1 (TM.not (TM.val ?_)))⟩
    refine EM.call (X := Bk X _ s1 H0 C1 cl fp) (by walk_at "cx") hr Ga ?_
    walk_at "es"
    refine ⟨x, s.copies, rfl, by omega, _, rfl, ?_, rfl⟩
    rw [hx2.2] <;> rfl
  · refine EM.lst ?_
    walk_at "e"
    rw [List.filter_eq_nil_iff.mpr (by simp)]
    refine ⟨by decide, .lst [], .lst [], .same _, .same _, Okn.ok (n := 1) .nilL, Okn.ok (n := 1) .nilL, _, rfl, ?_⟩
    rw [eqv_nilL]
    refine ifF rfl (SM.nil ?_)
    refine SM.last (S1.ife (TM.not (TM.val (EM.call c hr Ga ?_))))
    walk_at "es"
    refine ⟨s.mends, s.copies, rfl, by have := areC_len v.mends; omega, _, rfl, ?_⟩
    rw [v.mends]
    exact ifF rfl (SM.nil hq)
/-! ### need_top -/
def SNeedTop : DA := fun ds M P => ∃ t : Int, ds = [.int t] ∧ (1 ≤ t ∧ t ≤ 4) ∧ P .non M
theorem monoNeedTop : DMono SNeedTop := fun ds M P P' h ⟨s, e, v, p⟩ => ⟨s, e, v, h _ _ p⟩
theorem lenNeedTop : DLen SNeedTop 1 := fun ds M P ⟨s, e, v, p⟩ => by rw [e] <;> rfl
theorem sc_needtop : FnScope ["top"] ["top"] (defScope s_need_top) := ⟨rfl, rfl, rfl, by decide +kernel, rfl, by decide +kernel, by decide +kernel⟩
theorem ok_needtop {P : Program} {w : World} {K : PySem.W.Frag} {mg : Str → Option Value} {base : Heap} {f : Addr} {fd : FuncData} (F : Fun K "need_top" "need_top" s_need_top f fd) (hm : mg "need_top" = some (.ref f)) (hb : Binds K fd ["top"] []) (hC : KI mg "MOST_TOP" 4) : Gd P w K mg base "need_top" 1 ["top"] SNeedTop := by
  refine ok_def F sc_needtop hm hb monoNeedTop lenNeedTop ?_
  rintro X rfl rfl rfl rfl rfl c hr ds M Q ⟨t, rfl, v, hq⟩
  show SM X _ [some (.int t)] M _
  refine SM.last (S1.ife (TM.not (TM.chLeLe ?_)))
  walk_at "es"
  refine ⟨trivial, _, rfl, ifT (decide_eq_true v.1) ?_⟩
  exact EM.gint c hC ⟨trivial, _, rfl, ifF (by rw [decide_eq_true v.2] <;> rfl) (SM.nil hq)⟩
/-- the copies that are written for a number -/
def rowFor (s : Setup) (n : Int) : List Int := s.turns.getD (n % (s.turns.length : Int)).toNat []
theorem rowFor_mem {s : Setup} (v : 1 ≤ s.turns.length) (n : Int) : s.turns[(n % (s.turns.length : Int)).toNat]? = some (rowFor s n) := by
  have h1 := Int.emod_nonneg n (b := (s.turns.length : Int)) (by omega)
  have h2 := Int.emod_lt_of_pos n (b := (s.turns.length : Int)) (by omega)
  unfold rowFor
  rw [List.getD_eq_getElem?_getD, List.getElem?_eq_getElem (by omega)] <;> rfl
theorem rowFor_ok {s : Setup} (v : Valid s) (n : Int) : rowFor s n ≠ [] ∧ areC (rowFor s n) s.copies = true := v.rows _ (List.mem_of_getElem? (rowFor_mem v.turns.1 n))
def SRowFor : DA := fun ds M P => ∃ (s : Setup) (n : Int), ds = [setupD s, .int n] ∧ 1 ≤ s.turns.length ∧ P (rowD (rowFor s n)) M
theorem monoRowFor : DMono SRowFor := fun ds M P P' h ⟨s, n, e, v, p⟩ => ⟨s, n, e, v, h _ _ p⟩
theorem lenRowFor : DLen SRowFor 2 := fun ds M P ⟨s, n, e, v, p⟩ => by rw [e] <;> rfl
theorem sc_rowfor : FnScope ["setup", "number"] ["setup", "number"] (defScope s_row_for) := ⟨rfl, rfl, rfl, by decide +kernel, rfl, by decide +kernel, by decide +kernel⟩
theorem ok_rowfor {P : Program} {w : World} {K : PySem.W.Frag} {mg : Str → Option Value} {base : Heap} {f : Addr} {fd : FuncData} (F : Fun K "row_for" "row_for" s_row_for f fd) (hm : mg "row_for" = some (.ref f)) (hb : Binds K fd ["setup", "number"] []) (T : Bn mg) : Gd P w K mg base "row_for" 1 ["setup", "number"] SRowFor := by
  refine ok_def F sc_rowfor hm hb monoRowFor lenRowFor ?_
  rintro X rfl rfl rfl rfl rfl c hr ds M Q ⟨s, n, rfl, v, hq⟩
  show SM X _ [some (setupD s), some (.int n)] M _
  refine SM.last (S1.ret ?_)
  walk_at "es"
  refine ⟨_, rfl, ?_⟩
  walk_at "es"; walk_at "c"; walk_at "es"
  refine ⟨_, rfl, ?_⟩
  walk_at "d"
  rw [List.length_map]
  refine ⟨by omega, _, ?_, hq⟩
  have h1 := Int.emod_nonneg n (b := (s.turns.length : Int)) (by omega)
  refine atI_is (n % (s.turns.length : Int)).toNat (by omega) ?_
  rw [List.getElem?_map, rowFor_mem v] <;> rfl
/-! ### setups as plain data, compared -/
theorem okn_rowD (r : List Int) : Okn 1 (rowD r) := Okn.tmap fun i _ => .int i
theorem strs_ok : ∀ k ∈ kinds ++ readers, PyData.strOk k = true := by decide +kernel
theorem okn_setup {s : Setup} (v : Valid s) : Okn 3 (setupD s) := .tup fun d hd => by
  simp only [List.mem_cons, List.not_mem_nil, or_false] at hd
  rcases hd with rfl | rfl | rfl | rfl | rfl
  · exact .str (strs_ok _ (List.mem_append_left _ v.kind))
  · exact .int _
  · exact .str (strs_ok _ (List.mem_append_right _ v.reader))
  · exact Okn.tmap fun r _ => okn_rowD r
  · exact (okn_rowD _).mono (by decide)
/-! ### need_setup, where it may refuse -/
/-- why something is no setup; an empty text for none -/
def whyS (s : Setup) : Str :=
  if s.kind ∉ kinds then "kind" else if ¬ (1 ≤ s.copies ∧ s.copies ≤ 3) then "copies" else if s.reader ∉ readers then "reader" else if ¬ (1 ≤ s.turns.length ∧ s.turns.length ≤ 3) then "turns"
  else if (s.turns.filter fun r => decide (r.length = 0) || !areC r s.copies) ≠ [] then "turns" else if areC s.mends s.copies = false then "mends" else ""
def badW (E : Addr) (w : Str) : Er := ⟨E, [("word", .str w)]⟩
/-- not too long to be looked at -/
structure Short (s : Setup) : Prop where
  turns : s.turns.length ≤ 10000
  rows : ∀ r ∈ s.turns, r.length ≤ 10000
  mends : s.mends.length ≤ 10000
theorem whyS_valid {s : Setup} (h : whyS s = "") : Valid s := by
  unfold whyS at h
  split at h; · exact absurd h (by decide +kernel)
  split at h; · exact absurd h (by decide +kernel)
  split at h; · exact absurd h (by decide +kernel)
  split at h; · exact absurd h (by decide +kernel)
  split at h; · exact absurd h (by decide +kernel)
  split at h; · exact absurd h (by decide +kernel)
  rename_i h1 h2 h3 h4 h5 h6
  refine ⟨Decidable.not_not.mp h1, Decidable.not_not.mp h2, Decidable.not_not.mp h3, Decidable.not_not.mp h4, fun r hr => ?_, by simpa using h6⟩
  have h5 := Decidable.not_not.mp h5
  rw [List.filter_eq_nil_iff] at h5
  have := h5 r hr
  simp only [Bool.or_eq_true, decide_eq_true_eq, Bool.not_eq_true', not_or, Bool.not_eq_false] at this
  exact ⟨fun e => this.1 (by rw [e] <;> rfl), this.2⟩
def SNeedSX (E : Addr) : DAx := fun ds M P R => ∃ s : Setup, ds = [setupD s] ∧ Short s ∧ (whyS s = "" → P .non M) ∧ (whyS s ≠ "" → R (badW E (whyS s)) M)
theorem monoNeedSX (E : Addr) : DMonoX (SNeedSX E) := fun ds M P P' R R' h h' ⟨s, e, v, p, q⟩ => ⟨s, e, v, fun a => h _ _ (p a), fun a => h' _ _ (q a)⟩
theorem lenNeedSX (E : Addr) : DLenX (SNeedSX E) 1 := fun ds M P R ⟨s, e, v, p, q⟩ => by rw [e] <;> rfl
theorem ok_needsx {P : Program} {w : World} {K : PySem.W.Frag} {mg : Str → Option Value} {base : Heap} {f E : Addr} {fd : FuncData} (F : Fun K "need_setup" "need_setup" s_need_setup f fd) (hm : mg "need_setup" = some (.ref f)) (hb : Binds K fd ["setup"] []) (T : Bn mg) (C : Cs K mg) (GE : OwnX P w K mg base "BadSetup" 1 E "word")
    (Ga : Gd P w K mg base "are_copies" 1 ["some", "copies"] SAreC) : Gx P w K mg base "need_setup" 3 ["setup"] (SNeedSX E) := by
  refine ok_defX F sc_needsetup hm hb (monoNeedSX E) (lenNeedSX E) ?_
  rintro X rfl rfl rfl rfl rfl c hr ds M Q R ⟨s, rfl, v, hq, hR⟩
  have hu := hr.units
  have raise : ∀ {z : Str} {ρ1 : Rho} {O : Out} {p1 p2 p3 p4 : Pos} {j : Nat}, whyS s = z → z ≠ "" → SMx X [.Raise (some (.Call (.Name "BadSetup" p1) [.Constant (.str z) j p2] [] p3)) none p4] ρ1 M (fun x _ M' => R x M') O := fun {z ρ1 O p1 p2 p3 p4 j} h1 h2 =>
    SMx.last (S1x.raise c hr GE (EM.str (by subst h1; exact hR h2)))
  show SMx X _ [some (setupD s), none, none, none, none, none, none] M _ _
  refine SMx.seq (S1x.of (S1.asg c ?_))
  walk_at "e"
  refine ⟨_, _, GM.tup c (GMs.cons (GM.name c (by walk_at "put")) (GMs.cons (GM.name c (by walk_at "put")) (GMs.cons (GM.name c (by walk_at "put")) (GMs.cons (GM.name c (by walk_at "put")) (GMs.cons (GM.name c (by walk_at "put")) GMs.nil))))), ?_⟩
  refine SMx.seq (S1x.ife (TMx.of (TM.niS ?_)))
  walk_at "e"
  refine EM.gtup c C.kinds ?_
  refine ⟨_, kinds, rfl, .inl rfl, _, rfl, ?_⟩
  by_cases h1 : s.kind ∈ kinds
  rotate_left
  · exact ifT (by rw [decide_eq_false h1] <;> rfl) (raise (by unfold whyS; rw [if_pos h1]) (by decide +kernel))
  refine ifF (by rw [decide_eq_true h1] <;> rfl) (SMx.nil ?_)
  refine SMx.seq (S1x.ife (TMx.of (TM.to (P := fun b M' => M = M' ∧ b = !decide (1 ≤ s.copies ∧ s.copies ≤ 3)) (TM.not (TM.chLeLe ?_)) ?_)))
  · walk_at "es"
    refine ⟨trivial, _, rfl, ?_⟩
    by_cases a : 1 ≤ s.copies
    · refine ifT (decide_eq_true a) (EM.gint c C.copies ⟨trivial, _, rfl, rfl, ?_⟩)
      by_cases b : s.copies ≤ 3
      · rw [decide_eq_true b, decide_eq_true ⟨a, b⟩]
      · rw [decide_eq_false b, decide_eq_false fun h => b h.2]
    · exact ifF (decide_eq_false a) ⟨_, rfl, rfl, by rw [decide_eq_false fun h => a h.1]⟩
  rintro b M' ⟨rfl, rfl⟩
  by_cases h2 : 1 ≤ s.copies ∧ s.copies ≤ 3
  rotate_left
  · exact ifT (by rw [decide_eq_false h2] <;> rfl) (raise (by unfold whyS; rw [if_neg (fun h => h h1), if_pos h2]) (by decide +kernel))
  refine ifF (by rw [decide_eq_true h2] <;> rfl) (SMx.nil ?_)
  refine SMx.seq (S1x.ife (TMx.of (TM.niS ?_)))
  walk_at "e"
  refine EM.gtup c C.readers ?_
  refine ⟨_, readers, rfl, .inl rfl, _, rfl, ?_⟩
  by_cases h3 : s.reader ∈ readers
  rotate_left
  · exact ifT (by rw [decide_eq_false h3] <;> rfl) (raise (by unfold whyS; rw [if_neg (fun h => h h1), if_neg (fun h => h h2), if_pos h3]) (by decide +kernel))
  refine ifF (by rw [decide_eq_true h3] <;> rfl) (SMx.nil ?_)
  refine SMx.seq (S1x.ife (TMx.of (TM.to (P := fun b M' => M = M' ∧ b = !decide (1 ≤ s.turns.length ∧ s.turns.length ≤ 3)) (TM.not (TM.chLeLe ?_)) ?_)))
  · walk_at "es"; walk_at "c"; walk_at "e"
    rw [List.length_map]
    refine ⟨trivial, _, rfl, ?_⟩
    by_cases a : 1 ≤ s.turns.length
    · refine ifT (decide_eq_true (by omega)) (EM.gint c C.turns ⟨trivial, _, rfl, rfl, ?_⟩)
      by_cases b : s.turns.length ≤ 3
      · rw [decide_eq_true (by omega), decide_eq_true ⟨a, b⟩]
      · rw [decide_eq_false (by omega), decide_eq_false fun h => b h.2]
    · exact ifF (decide_eq_false (by omega)) ⟨_, rfl, rfl, by rw [decide_eq_false fun h => a h.1]⟩
  rintro b M' ⟨rfl, rfl⟩
  by_cases h4 : 1 ≤ s.turns.length ∧ s.turns.length ≤ 3
  rotate_left
  · exact ifT (by rw [decide_eq_false h4] <;> rfl) (raise (by unfold whyS; rw [if_neg (fun h => h h1), if_neg (fun h => h h2), if_neg (fun h => h h3), if_pos h4]) (by decide +kernel))
  refine ifF (by rw [decide_eq_true h4] <;> rfl) (SMx.nil ?_)
  refine SMx.seq (S1x.ife (TMx.of (TM.ne hu ?_)))
  refine EM.lcFil (α := List Int) c (by walk_at "wp") (IW.tup ?_)
  walk_at "e"
  refine ⟨_, rfl, s.turns, rowD, rowD, fun r => decide (r.length = 0) || !areC r s.copies, rfl, by omega, fun x hx => ⟨_, by walk_at "put", fun s1 H0 C1 cl fp => ?_, fun hs s1 H0 C1 cl fp => ?_⟩, ?_⟩
  · have hx3 := v.rows x hx
    refine TM.w (WM.or (TM.eq hu ?_))
    walk_at "c"; walk_at "es"
    rw [List.length_map]
    refine ⟨_, rfl, ?_⟩
    by_cases h0 : x.length = 0
    · refine ifT (decide_eq_true (by omega)) ⟨?_, rfl⟩
      rw [decide_eq_true h0, Bool.true_or]
    · refine ifF (decide_eq_false (by omega)) (WM.or1 (TM.not (TM.val ?_)))
      refine EM.call (X := Bk X _ s1 H0 C1 cl fp) (by walk_at "cx") hr Ga ?_
      walk_at "es"
      refine ⟨x, s.copies, rfl, by omega, _, rfl, ?_, rfl⟩
      rw [decide_eq_false h0, Bool.false_or]
  · walk_at "e"
    exact ⟨rfl, rfl⟩
  · refine EM.lst ?_
    walk_at "e"
    have hokl : Okn 2 (.lst ((s.turns.filter fun r => decide (r.length = 0) || !areC r s.copies).map rowD)) := .lmap (n := 1) fun r _ => .tmap (n := 0) fun i _ => .int i
    refine ⟨by decide, .lst (_ : List D), .lst [], .same _, .same _, hokl.ok, Okn.ok (n := 1) .nilL, _, rfl, ?_⟩
    rw [eqv_nilL]
    by_cases h5 : (s.turns.filter fun r => decide (r.length = 0) || !areC r s.copies) = []
    rotate_left
    · refine ifT ?_ (raise (by unfold whyS; rw [if_neg (fun h => h h1), if_neg (fun h => h h2), if_neg (fun h => h h3), if_neg (fun h => h h4), if_pos h5]) (by decide +kernel))
      generalize (s.turns.filter fun r => decide (r.length = 0) || !areC r s.copies) = l at h5
      cases l with
      | nil => exact absurd rfl h5
      | cons a l => rfl
    refine ifF (by rw [h5] <;> rfl) (SMx.nil ?_)
    refine SMx.last (S1x.ife (TMx.of (TM.not (TM.val (EM.call c hr Ga ?_)))))
    walk_at "es"
    refine ⟨s.mends, s.copies, rfl, by have := v.mends; omega, _, rfl, ?_⟩
    cases h6 : areC s.mends s.copies with
    | false => exact ifT rfl (raise (by unfold whyS; rw [if_neg (fun h => h h1), if_neg (fun h => h h2), if_neg (fun h => h h3), if_neg (fun h => h h4), if_neg (fun h => h h5), if_pos h6]) (by decide +kernel))
    | true => exact ifF rfl (SMx.nil (hq (by unfold whyS; rw [if_neg (fun h => h h1), if_neg (fun h => h h2), if_neg (fun h => h h3), if_neg (fun h => h h4), if_neg (fun h => h h5), if_neg (by rw [h6]; decide)])))
/-! ### texts of setups, in plain terms -/
section
open TL
def digT (x : Int) : Str := ((toString x : String) : Str)
def rowTx (r : List Int) : Str := Txt.join "" (r.map digT)
def mendTx (m : List Int) : Str := if m = [] then "-" else rowTx m
def wordsOf (s : Setup) : List Str := [s.kind, digT s.copies, s.reader, Txt.join "," (s.turns.map rowTx), mendTx s.mends]
def textOf (s : Setup) : Str := Txt.join " " (wordsOf s)
def figs : Str := "0123456789"
theorem digT_tl {x : Int} (h : 0 ≤ x ∧ x < 10) : tl (digT x) = [48 + x.toNat] := by
  have e : x = ((x.toNat : Nat) : Int) := by omega
  unfold digT
  rw [e]
  show tl (Str.ofString (toString ((x.toNat : Nat) : Int))) = _
  rw [tl_num, numL_lt (by omega), Int.toNat_natCast]
theorem joinL_nil : ∀ ls : List (List Nat), joinL [] ls = ls.flatten
  | [] => rfl
  | [p] => by show p = p ++ []; rw [List.append_nil]
  | p :: q :: r => by
    show p ++ ([] ++ joinL [] (q :: r)) = p ++ (q :: r).flatten
    rw [joinL_nil (q :: r), List.nil_append]
def Figs (r : List Int) : Prop := ∀ x ∈ r, 0 ≤ x ∧ x < 10
theorem rowTx_tl {r : List Int} (h : Figs r) : tl (rowTx r) = r.map fun x => 48 + x.toNat := by
  unfold rowTx
  rw [join_eq, tl_join, show tl ("" : Str) = [] from by decide +kernel, joinL_nil, List.map_map]
  induction r with
  | nil => rfl
  | cons a r ih =>
    rw [List.map_cons, List.flatten_cons, ih fun x hx => h x (List.mem_cons_of_mem _ hx)]
    show tl (digT a) ++ _ = _
    rw [digT_tl (h a List.mem_cons_self)] <;> rfl
theorem digT_len {x : Int} (h : 0 ≤ x ∧ x < 10) : (digT x).length = 1 := by rw [len_tl, digT_tl h] <;> rfl
theorem rowTx_len {r : List Int} (h : Figs r) : (rowTx r).length = r.length := by rw [len_tl, rowTx_tl h, List.length_map]
theorem sum_len : ∀ {r : List Int}, Figs r → ((r.map digT).map (·.length)).sum = r.length
  | [], _ => rfl
  | a :: r, h => by
    rw [List.map_cons, List.map_cons, List.sum_cons, sum_len fun x hx => h x (List.mem_cons_of_mem _ hx), digT_len (h a List.mem_cons_self), List.length_cons]
    omega
theorem figs_of {l : List Int} {n : Int} (h : areC l n = true) (hn : n ≤ 10) : Figs l := fun x hx => by have := areC_in h x hx; omega
theorem joinL_len (S : List Nat) : ∀ ls : List (List Nat), (joinL S ls).length ≤ ls.flatten.length + S.length * ls.length
  | [] => Nat.zero_le _
  | [p] => by
    show p.length ≤ (p ++ []).length + S.length * 1
    rw [List.append_nil]
    omega
  | p :: q :: r => by
    have ih := joinL_len S (q :: r)
    show (p ++ (S ++ joinL S (q :: r))).length ≤ (p ++ (q :: r).flatten).length + S.length * ((q :: r).length + 1)
    rw [List.length_append, List.length_append, List.length_append, Nat.mul_succ]
    omega
theorem flat_len {α : Type} : ∀ ls : List (List α), ls.flatten.length = (ls.map List.length).sum
  | [] => rfl
  | l :: ls => by rw [List.flatten_cons, List.length_append, flat_len ls, List.map_cons, List.sum_cons]
theorem join_len (y : Str) (parts : List Str) : (Txt.join y parts).length ≤ (parts.map (·.length)).sum + parts.length * y.length := by
  rw [len_tl, join_eq, tl_join]
  refine Nat.le_trans (joinL_len _ _) ?_
  rw [flat_len, List.map_map, List.length_map, len_tl y, Nat.mul_comm]
  have : (parts.map (List.length ∘ tl)) = parts.map (·.length) := List.map_congr_left fun p _ => (len_tl p).symm
  rw [this]
  exact Nat.le_refl _
theorem joinL_mem {S : List Nat} {c : Nat} : ∀ {ls : List (List Nat)}, c ∈ joinL S ls → c ∈ S ∨ ∃ l ∈ ls, c ∈ l
  | [], h => nomatch h
  | [p], h => .inr ⟨p, List.mem_cons_self, h⟩
  | p :: q :: r, h => by
    have h : c ∈ p ++ (S ++ joinL S (q :: r)) := h
    rcases List.mem_append.mp h with h | h
    · exact .inr ⟨p, List.mem_cons_self, h⟩
    · rcases List.mem_append.mp h with h | h
      · exact .inl h
      · rcases joinL_mem h with h | ⟨l, h1, h2⟩
        · exact .inl h
        · exact .inr ⟨l, List.mem_cons_of_mem _ h1, h2⟩
/-- the rows' word -/
def rowsTx (ts : List (List Int)) : Str := Txt.join "," (ts.map rowTx)
theorem comma_tl : tl ("," : Str) = [44] := by decide +kernel
theorem blank_tl : tl (" " : Str) = [32] := by decide +kernel
theorem rowTx_mem {r : List Int} (h : Figs r) {c : Nat} (hc : c ∈ tl (rowTx r)) : 48 ≤ c ∧ c ≤ 57 := by
  rw [rowTx_tl h] at hc
  obtain ⟨x, hx, rfl⟩ := List.mem_map.mp hc
  have := h x hx
  omega
theorem rowsTx_mem {ts : List (List Int)} (h : ∀ r ∈ ts, Figs r) {c : Nat} (hc : c ∈ tl (rowsTx ts)) : c = 44 ∨ (48 ≤ c ∧ c ≤ 57) := by
  unfold rowsTx at hc
  rw [join_eq, tl_join, comma_tl] at hc
  rcases joinL_mem hc with hc | ⟨l, hl, hc⟩
  · exact .inl (by simpa using hc)
  · obtain ⟨x, hx, rfl⟩ := List.mem_map.mp hl
    obtain ⟨r, hr, rfl⟩ := List.mem_map.mp hx
    exact .inr (rowTx_mem (h r hr) hc)
theorem rowsTx_split {ts : List (List Int)} (h0 : ts ≠ []) (h : ∀ r ∈ ts, Figs r) : Txt.split (rowsTx ts) "," = ts.map rowTx := by
  refine split_join comma_tl (by decide +kernel) (fun e => h0 (List.map_eq_nil_iff.mp e)) fun p hp hc => ?_
  obtain ⟨r, hr, rfl⟩ := List.mem_map.mp hp
  have := rowTx_mem (h r hr) hc
  omega
theorem minus_tl : tl ("-" : Str) = [45] := by decide +kernel
theorem mendTx_mem {m : List Int} (h : Figs m) {c : Nat} (hc : c ∈ tl (mendTx m)) : c = 45 ∨ (48 ≤ c ∧ c ≤ 57) := by
  unfold mendTx at hc
  split at hc
  · rw [minus_tl] at hc
    exact .inl (by simpa using hc)
  · exact .inr (rowTx_mem h hc)
theorem kinds_free : ∀ k ∈ kinds ++ readers, 32 ∉ tl k ∧ k.length ≤ 7 := by decide +kernel
structure Tx (s : Setup) : Prop where
  v : Valid s
  turns : ∀ r ∈ s.turns, Figs r
  mends : Figs s.mends
theorem tx_of {s : Setup} (v : Valid s) : Tx s := ⟨v, fun r hr => figs_of (v.rows r hr).2 (by have := v.copies; omega), figs_of v.mends (by have := v.copies; omega)⟩
theorem rowsTx_len {s : Setup} (x : Tx s) : ((s.turns.map rowTx).map (·.length)).sum + (s.turns.map rowTx).length * ("," : Str).length ≤ 30 := by
  have h1 := x.v.turns
  have hc : ("," : Str).length = 1 := by decide +kernel
  have h2 : ∀ ts : List (List Int), (∀ r ∈ ts, Figs r ∧ r.length ≤ 6) → ((ts.map rowTx).map (·.length)).sum ≤ 6 * ts.length := fun ts => by
    induction ts with
    | nil => intro _; exact Nat.le_refl _
    | cons a ts ih =>
      intro h
      have h3 := h a List.mem_cons_self
      have ih := ih fun r hr => h r (List.mem_cons_of_mem _ hr)
      rw [List.map_cons, List.map_cons, List.sum_cons, List.length_cons, rowTx_len h3.1]
      omega
  have h3 := h2 s.turns fun r hr => ⟨x.turns r hr, areC_len (x.v.rows r hr).2⟩
  rw [List.length_map, hc]
  omega
theorem mendTx_len {m : List Int} (h : Figs m) (hl : m.length ≤ 6) : (mendTx m).length ≤ 6 := by
  unfold mendTx
  split
  · rw [show ("-" : Str).length = 1 from by decide +kernel]; decide
  · rw [rowTx_len h]; exact hl
theorem words_len {s : Setup} (x : Tx s) : ((wordsOf s).map (·.length)).sum + (wordsOf s).length * (" " : Str).length ≤ 60 := by
  have hc : (" " : Str).length = 1 := by decide +kernel
  have k1 := (kinds_free s.kind (List.mem_append_left _ x.v.kind)).2
  have k2 := (kinds_free s.reader (List.mem_append_right _ x.v.reader)).2
  have k3 := digT_len (x := s.copies) (by have := x.v.copies; omega)
  have k4 := Nat.le_trans (join_len "," (s.turns.map rowTx)) (rowsTx_len x)
  have k5 := mendTx_len x.mends (areC_len x.v.mends)
  unfold wordsOf
  simp only [List.map_cons, List.map_nil, List.sum_cons, List.sum_nil, List.length_cons, List.length_nil, hc, k3]
  omega
theorem text_len {s : Setup} (x : Tx s) : (textOf s).length ≤ 60 := Nat.le_trans (join_len _ _) (words_len x)
theorem text_split {s : Setup} (x : Tx s) : Txt.split (textOf s) " " = wordsOf s := by
  refine split_join blank_tl (by decide +kernel) (by unfold wordsOf; simp) fun p hp hc => ?_
  unfold wordsOf at hp
  simp only [List.mem_cons, List.not_mem_nil, or_false] at hp
  rcases hp with rfl | rfl | rfl | rfl | rfl
  · exact (kinds_free _ (List.mem_append_left _ x.v.kind)).1 hc
  · rw [digT_tl (by have := x.v.copies; omega)] at hc
    have : 32 = 48 + s.copies.toNat := by simpa using hc
    omega
  · exact (kinds_free _ (List.mem_append_right _ x.v.reader)).1 hc
  · have := rowsTx_mem x.turns hc
    omega
  · have := mendTx_mem x.mends hc
    omega
/-! figures -/
theorem fig_in : ∀ c ∈ List.range' 48 10, inText ⟨#[c]⟩ figs = true ∧ PySem.intText? ⟨#[c]⟩ = some ((c : Int) - 48) := by decide +kernel
theorem fig_ok {c : Nat} (h : 48 ≤ c ∧ c ≤ 57) : inText ⟨#[c]⟩ figs = true ∧ PySem.intText? ⟨#[c]⟩ = some ((c : Int) - 48) := fig_in c (List.mem_range'_1.mpr (by omega))
theorem fig_row {r : List Int} (h : Figs r) : (tl (rowTx r)).map (fun c : Nat => D.int ((c : Int) - 48)) = r.map D.int := by
  rw [rowTx_tl h, List.map_map]
  refine List.map_congr_left fun x hx => ?_
  have := h x hx
  show D.int (((48 + x.toNat : Nat) : Int) - 48) = D.int x
  rw [show (((48 + x.toNat : Nat) : Int) - 48) = x by omega]
theorem fig_dig {x : Int} (h : 0 ≤ x ∧ x < 10) : (tl (digT x)).map (fun c : Nat => D.int ((c : Int) - 48)) = [D.int x] := by
  rw [digT_tl h]
  show [D.int (((48 + x.toNat : Nat) : Int) - 48)] = _
  rw [show (((48 + x.toNat : Nat) : Int) - 48) = x by omega]
theorem int_dig {x : Int} (h : 0 ≤ x ∧ x < 10) : PySem.intText? (digT x) = some x := by
  have e : x = ((x.toNat : Nat) : Int) := by omega
  unfold digT
  rw [e]
  show PySem.intText? (Str.ofString (toString ((x.toNat : Nat) : Int))) = _
  exact int_num (by rw [numL_lt (by omega)]; show 1 ≤ 4300; decide)
theorem str_ne {x : Str} (h : x.length ≠ 0) : x ≠ "" := fun e => h (by rw [e]; decide +kernel)
end
/-! ### words for figures_of, read -/
def SWritten : DA := fun ds M P => ∃ s : Setup, ds = [setupD s] ∧ Valid s ∧ P (.str (textOf s)) M
theorem monoWritten : DMono SWritten := fun ds M P P' h ⟨s, e, v, q⟩ => ⟨s, e, v, h _ _ q⟩
theorem lenWritten : DLen SWritten 1 := fun ds M P ⟨s, e, v, q⟩ => by rw [e] <;> rfl
/-- "".join([str(x) for x in row]) -/
theorem e_str {X : Cx} {N : List Str} {sc : Scope} {ρ : Rho} {M : Mem} {P : D → Mem → Prop} {a : Expr} {pos p1 : Pos} (c : Dl.Ctx X N sc) (T : Bn X.mg) (h : EM X a ρ M fun d M1 => RStrI [d] M1 P) (h2 : glB sc "str" = true := by decide +kernel) (he : starEach [a] X.env = [(false, eval a X.env)] := by rfl) : EM X (.Call (.Name "str" p1) [a] [] pos) ρ M P := EM.callT c call_str_int dStrI T.str PyProof.Rows.boot_str (AM.cons (h.to fun d M1 h => AM.nil h) he) h2 (by decide +kernel) (by decide +kernel) he
theorem log_small {x : Int} (h : 0 ≤ x ∧ x < 10) : x.natAbs.log2 < 1920 := by
  have : x.natAbs < 10 := by omega
  exact Nat.lt_of_le_of_lt (Nat.log2_le_self _) (by omega)
section
open TL
abbrev nWritten : List Str := ["setup", "kind", "copies", "reader", "turns", "mends", "rows", "mending", "row", "copy"]
theorem sc_written : FnScope nWritten ["setup"] (defScope s_written) := ⟨rfl, rfl, rfl, by decide +kernel, rfl, by decide +kernel, by decide +kernel⟩
variable {P : Program} {w : World} {K : PySem.W.Frag} {mg : Str → Option Value} {base : Heap} {f C : Addr} {fd : FuncData}
theorem ok_written (F : Fun K "written" "written" s_written f fd) (hm : mg "written" = some (.ref f)) (hb : Binds K fd ["setup"] []) (T : Bn mg) (Gs : Gd P w K mg base "need_setup" 2 ["setup"] SNeedSetup) : Gd P w K mg base "written" 3 ["setup"] SWritten := by
  refine ok_def F sc_written hm hb monoWritten lenWritten ?_
  rintro X rfl rfl rfl rfl rfl c hr ds M Q ⟨s, rfl, v, hq⟩
  have hu := hr.units
  have x := tx_of v
  show SM X _ [some (setupD s), none, none, none, none, none, none, none, none, none] M _
  refine SM.seq (S1.expr (EM.call c hr Gs ?_))
  walk_at "es"
  refine ⟨s, rfl, v, ?_⟩
  refine SM.seq (S1.asg c ?_)
  walk_at "e"
  refine ⟨_, _, GM.tup c (GMs.cons (GM.name c (by walk_at "put")) (GMs.cons (GM.name c (by walk_at "put")) (GMs.cons (GM.name c (by walk_at "put")) (GMs.cons (GM.name c (by walk_at "put")) (GMs.cons (GM.name c (by walk_at "put")) GMs.nil))))), ?_⟩
  have h0 : ("" : Str).length = 0 := by decide +kernel
  -- rows
  refine SM.seq (S1.setMap (α := List Int) c (by walk_at "wp") (IW.tup ?_))
  walk_at "e"
  refine ⟨_, rfl, s.turns, rowD, fun r => .str (rowTx r), rfl, by have := v.turns; omega, fun r hr2 => ⟨_, by walk_at "put", fun s1 H0 C1 cl fp => ?_⟩, _, by walk_at "put", ?_⟩
  · have hrow := areC_len (v.rows r hr2).2
    have hfg := x.turns r hr2
    refine EM.joinS (X := Bk X _ s1 H0 C1 cl fp) ?_
    walk_at "e"
    refine ⟨⟨_, rfl⟩, EM.lcMap (X := Bk X _ s1 H0 C1 cl fp) (α := Int) (by walk_at "cx") (by walk_at "wp") (IW.tup ?_)⟩
    walk_at "e"
    refine ⟨_, rfl, r, D.int, fun x => .str (digT x), rfl, by omega, fun y hy => ⟨_, by walk_at "put", fun s2 H2 C2 cl2 fp2 => ?_⟩, ?_⟩
    · refine e_str (by walk_at "cx") T ?_
      walk_at "e"
      exact ⟨log_small (hfg y hy), rfl, rfl⟩
    · refine ⟨_, r.map digT, rfl, .inl (by rw [List.map_map] <;> rfl), ?_, rfl, rfl⟩
      rw [sum_len hfg, h0]
      omega
  -- mending
  refine SM.seq (S1.set c (EM.joinS ?_))
  walk_at "e"
  refine ⟨⟨_, rfl⟩, EM.lcMap (α := Int) c (by walk_at "wp") (IW.tup ?_)⟩
  walk_at "e"
  have hml := areC_len v.mends
  refine ⟨_, rfl, s.mends, D.int, fun x => .str (digT x), rfl, by omega, fun y hy => ⟨_, by walk_at "put", fun s2 H2 C2 cl2 fp2 => ?_⟩, ?_⟩
  · refine e_str (by walk_at "cx") T ?_
    walk_at "e"
    exact ⟨log_small (x.mends y hy), rfl, rfl⟩
  refine ⟨_, s.mends.map digT, rfl, .inl (by rw [List.map_map] <;> rfl), ?_, _, by walk_at "put", ?_⟩
  · rw [sum_len x.mends, h0]
    omega
  -- the text
  refine SM.last (S1.ret (EM.joinS ?_))
  walk_at "e"
  refine ⟨⟨_, rfl⟩, EM.lst (AM.cons (EM.var (by walk_at "cx") (by walk_at "at") (AM.cons (e_str c T ?_))))⟩
  walk_at "e"
  have hcp : 0 ≤ s.copies ∧ s.copies < 10 := by have := v.copies; omega
  refine ⟨log_small hcp, AM.cons (EM.var (by walk_at "cx") (by walk_at "at") (AM.cons (EM.joinS ?_)))⟩
  walk_at "e"
  refine ⟨⟨_, rfl⟩, ?_⟩
  walk_at "e"
  refine ⟨_, s.turns.map rowTx, rfl, .inl (by rw [List.map_map] <;> rfl), Nat.le_trans (rowsTx_len x) (by decide), ?_⟩
  refine AM.cons (EM.to (P := fun d M' => d = .str (mendTx s.mends) ∧ M' = M) (EM.ife (TM.ne hu ?_)) ?_)
  · walk_at "es"
    refine ⟨_, rfl, ?_⟩
    unfold mendTx
    by_cases hm0 : s.mends = []
    · rw [if_pos hm0]
      refine ifF ?_ ?_
      · show (!decide (rowTx s.mends = "")) = false
        rw [hm0, decide_eq_true (show rowTx [] = "" from TL.ext_tl (by rw [rowTx_tl (by intro x h; cases h)]; decide +kernel))] <;> rfl
      · walk_at "e"
        exact ⟨rfl, rfl⟩
    · rw [if_neg hm0]
      refine ifT ?_ ?_
      · show (!decide (rowTx s.mends = "")) = true
        rw [decide_eq_false (str_ne (by rw [rowTx_len x.mends]; have := List.length_pos_iff.mpr hm0; omega))] <;> rfl
      · walk_at "e"
        exact ⟨rfl, rfl⟩
  rintro d M' ⟨rfl, rfl⟩
  refine AM.nil ⟨by show 5 ≤ sizeLine; decide, _, wordsOf s, rfl, .inl rfl, Nat.le_trans (words_len x) (by decide), hq⟩
end
/-! ### all that is handed a setup: how it refuses -/
def badT (E : Addr) : Er := ⟨E, []⟩
/-- a number up to which it may be counted -/
def okTop (t : Int) : Prop := 1 ≤ t ∧ t ≤ 4
instance (t : Int) : Decidable (okTop t) := by unfold okTop; infer_instance
def SNeedTopX (E : Addr) : DAx := fun ds M P R => ∃ t : Int, ds = [.int t] ∧ (okTop t → P .non M) ∧ (¬ okTop t → R (badT E) M)
theorem monoNeedTopX (E : Addr) : DMonoX (SNeedTopX E) := fun ds M P P' R R' h h' ⟨t, e, p, q⟩ => ⟨t, e, fun a => h _ _ (p a), fun a => h' _ _ (q a)⟩
theorem lenNeedTopX (E : Addr) : DLenX (SNeedTopX E) 1 := fun ds M P R ⟨t, e, p, q⟩ => by rw [e] <;> rfl
/-- one setup, that is none -/
def SBad1 (E : Addr) : DAx := fun ds M P R => ∃ s : Setup, ds = [setupD s] ∧ Short s ∧ whyS s ≠ "" ∧ R (badW E (whyS s)) M
theorem monoBad1 (E : Addr) : DMonoX (SBad1 E) := fun ds M P P' R R' h h' ⟨s, e, a, b, q⟩ => ⟨s, e, a, b, h' _ _ q⟩
theorem lenBad1 (E : Addr) : DLenX (SBad1 E) 1 := fun ds M P R ⟨s, e, _⟩ => by rw [e] <;> rfl
/-- a setup and a top, one of which is none -/
def SBad2 (E Et : Addr) : DAx := fun ds M P R => ∃ (s : Setup) (t : Int), ds = [setupD s, .int t] ∧ Short s ∧ (whyS s ≠ "" → R (badW E (whyS s)) M) ∧ (whyS s = "" → ¬ okTop t ∧ R (badT Et) M)
theorem monoBad2 (E Et : Addr) : DMonoX (SBad2 E Et) := fun ds M P P' R R' h h' ⟨s, t, e, a, b, q⟩ => ⟨s, t, e, a, fun z => h' _ _ (b z), fun z => ⟨(q z).1, h' _ _ (q z).2⟩⟩
theorem lenBad2 (E Et : Addr) : DLenX (SBad2 E Et) 2 := fun ds M P R ⟨s, t, e, _⟩ => by rw [e] <;> rfl
def SBad3 (E Et : Addr) : DAx := fun ds M P R => ∃ (s : Setup) (t : Int) (z : D), ds = [setupD s, .int t, z] ∧ Short s ∧ (whyS s ≠ "" → R (badW E (whyS s)) M) ∧ (whyS s = "" → ¬ okTop t ∧ R (badT Et) M)
theorem monoBad3 (E Et : Addr) : DMonoX (SBad3 E Et) := fun ds M P P' R R' h h' ⟨s, t, z, e, a, b, q⟩ => ⟨s, t, z, e, a, fun z => h' _ _ (b z), fun z => ⟨(q z).1, h' _ _ (q z).2⟩⟩
theorem lenBad3 (E Et : Addr) : DLenX (SBad3 E Et) 3 := fun ds M P R ⟨s, t, z, e, _⟩ => by rw [e] <;> rfl
/-- setups and a top -/
def SBadL (E Et : Addr) : DAx := fun ds M P R => ∃ (ss : List Setup) (t : Int), ds = [.lst (ss.map setupD), .int t] ∧ (∀ s ∈ ss, Short s) ∧ (∀ (i : Nat) (s : Setup), ss[i]? = some s → (∀ r ∈ ss.take i, whyS r = "") → whyS s ≠ "" → R (badW E (whyS s)) M) ∧ ((∀ s ∈ ss, whyS s = "") → ¬ okTop t ∧ R (badT Et) M)
theorem monoBadL (E Et : Addr) : DMonoX (SBadL E Et) := fun ds M P P' R R' h h' ⟨ss, t, e, a, b, q⟩ => ⟨ss, t, e, a, fun i s x y z => h' _ _ (b i s x y z), fun z => ⟨(q z).1, h' _ _ (q z).2⟩⟩
theorem lenBadL (E Et : Addr) : DLenX (SBadL E Et) 2 := fun ds M P R ⟨ss, t, e, _⟩ => by rw [e] <;> rfl
theorem sc_heldx : FnScope ["setups", "top", "setup", "rows", "number"] ["setups", "top"] (defScope s_held) := ⟨rfl, rfl, rfl, by decide +kernel, rfl, by decide +kernel, by decide +kernel⟩
theorem sc_judgedx : FnScope ["setup", "top", "found"] ["setup", "top"] (defScope s_judged) := ⟨rfl, rfl, rfl, by decide +kernel, rfl, by decide +kernel, by decide +kernel⟩
theorem sc_costx : FnScope ["setup", "number"] ["setup"] (defScope s_cost) := ⟨rfl, rfl, rfl, by decide +kernel, rfl, by decide +kernel, by decide +kernel⟩
theorem sc_writtenx : FnScope ["setup", "kind", "copies", "reader", "turns", "mends", "rows", "mending", "row", "copy"] ["setup"] (defScope s_written) := ⟨rfl, rfl, rfl, by decide +kernel, rfl, by decide +kernel, by decide +kernel⟩
theorem sc_runx : FnScope ["setup", "top", "stretches", "counter", "found", "many", "torn"] ["setup", "top", "stretches"] (defScope s_run) := ⟨rfl, rfl, rfl, by decide +kernel, rfl, by decide +kernel, by decide +kernel⟩
section
variable {P : Program} {w : World} {K : PySem.W.Frag} {mg : Str → Option Value} {base : Heap} {f C E Es Et : Addr} {fd : FuncData}
theorem ok_needtopx (F : Fun K "need_top" "need_top" s_need_top f fd) (hm : mg "need_top" = some (.ref f)) (hb : Binds K fd ["top"] []) (hC : KI mg "MOST_TOP" 4) (B : BareX K mg "BadTop" Et) : Gx P w K mg base "need_top" 1 ["top"] (SNeedTopX Et) := by
  refine ok_defX F sc_needtop hm hb (monoNeedTopX Et) (lenNeedTopX Et) ?_
  rintro X rfl rfl rfl rfl rfl c hr ds M Q R ⟨t, rfl, hq, hR⟩
  show SMx X _ [some (.int t)] M _ _
  refine SMx.last (S1x.ife (TMx.of (TM.to (P := fun b M' => M = M' ∧ b = !decide (okTop t)) (TM.not (TM.chLeLe ?_)) ?_)))
  · walk_at "es"
    refine ⟨trivial, _, rfl, ?_⟩
    by_cases a : 1 ≤ t
    · refine ifT (decide_eq_true a) (EM.gint c hC ⟨trivial, _, rfl, rfl, ?_⟩)
      by_cases b : t ≤ 4
      · rw [decide_eq_true b, decide_eq_true (show okTop t from ⟨a, b⟩)]
      · rw [decide_eq_false b, decide_eq_false fun h : okTop t => b h.2]
    · exact ifF (decide_eq_false a) ⟨_, rfl, rfl, by rw [decide_eq_false fun h : okTop t => a h.1] <;> rfl⟩
  rintro b M' ⟨rfl, rfl⟩
  by_cases h : okTop t
  · exact ifF (by rw [decide_eq_true h] <;> rfl) (SMx.nil (hq h))
  · exact ifT (by rw [decide_eq_false h] <;> rfl) (SMx.last (S1x.raise0 c B (hR h)))
theorem ok_costbad (F : Fun K "cost" "cost" s_cost f fd) (hm : mg "cost" = some (.ref f)) (hb : Binds K fd ["setup"] []) (Gs : Gx P w K mg base "need_setup" 3 ["setup"] (SNeedSX Es)) : Gx P w K mg base "cost" 4 ["setup"] (SBad1 Es) := by
  refine ok_defX F sc_costx hm hb (monoBad1 Es) (lenBad1 Es) ?_
  rintro X rfl rfl rfl rfl rfl c hr ds M Q R ⟨s, rfl, v, hw, hR⟩
  show SMx X _ [some (setupD s), none] M _ _
  refine SMx.seq (S1x.expr (EMx.call c hr Gs ?_))
  walk_at "es"
  exact ⟨s, rfl, v, fun h => absurd h hw, fun _ => ⟨rfl, hR⟩⟩
theorem ok_writtenbad (F : Fun K "written" "written" s_written f fd) (hm : mg "written" = some (.ref f)) (hb : Binds K fd ["setup"] []) (Gs : Gx P w K mg base "need_setup" 3 ["setup"] (SNeedSX Es)) : Gx P w K mg base "written" 4 ["setup"] (SBad1 Es) := by
  refine ok_defX F sc_writtenx hm hb (monoBad1 Es) (lenBad1 Es) ?_
  rintro X rfl rfl rfl rfl rfl c hr ds M Q R ⟨s, rfl, v, hw, hR⟩
  show SMx X _ [some (setupD s), none, none, none, none, none, none, none, none, none] M _ _
  refine SMx.seq (S1x.expr (EMx.call c hr Gs ?_))
  walk_at "es"
  exact ⟨s, rfl, v, fun h => absurd h hw, fun _ => ⟨rfl, hR⟩⟩
theorem ok_judgedbad (F : Fun K "judged" "judged" s_judged f fd) (hm : mg "judged" = some (.ref f)) (hb : Binds K fd ["setup", "top"] []) (Gs : Gx P w K mg base "need_setup" 3 ["setup"] (SNeedSX Es)) (Gt : Gx P w K mg base "need_top" 1 ["top"] (SNeedTopX Et)) : Gx P w K mg base "judged" 4 ["setup", "top"] (SBad2 Es Et) := by
  refine ok_defX F sc_judgedx hm hb (monoBad2 Es Et) (lenBad2 Es Et) ?_
  rintro X rfl rfl rfl rfl rfl c hr ds M Q R ⟨s, t, rfl, v, h1, h2⟩
  show SMx X _ [some (setupD s), some (.int t), none] M _ _
  refine SMx.seq (S1x.expr (EMx.call c hr Gs ?_))
  walk_at "es"
  refine ⟨s, rfl, v, fun h => ⟨rfl, ?_⟩, fun h => ⟨rfl, h1 h⟩⟩
  refine SMx.seq (S1x.expr (EMx.call c hr Gt ?_))
  walk_at "es"
  exact ⟨t, rfl, fun z => absurd z (h2 h).1, fun _ => ⟨rfl, (h2 h).2⟩⟩
theorem ok_runbad (F : Fun K "run" "run" s_run f fd) (hm : mg "run" = some (.ref f)) (hb : Binds K fd ["setup", "top", "stretches"] []) (Gs : Gx P w K mg base "need_setup" 3 ["setup"] (SNeedSX Es)) (Gt : Gx P w K mg base "need_top" 1 ["top"] (SNeedTopX Et)) : Gx P w K mg base "run" 4 ["setup", "top", "stretches"] (SBad3 Es Et) := by
  refine ok_defX F sc_runx hm hb (monoBad3 Es Et) (lenBad3 Es Et) ?_
  rintro X rfl rfl rfl rfl rfl c hr ds M Q R ⟨s, t, z, rfl, v, h1, h2⟩
  show SMx X _ [some (setupD s), some (.int t), some z, none, none, none, none] M _ _
  refine SMx.seq (S1x.expr (EMx.call c hr Gs ?_))
  walk_at "es"
  refine ⟨s, rfl, v, fun h => ⟨rfl, ?_⟩, fun h => ⟨rfl, h1 h⟩⟩
  refine SMx.seq (S1x.expr (EMx.call c hr Gt ?_))
  walk_at "es"
  exact ⟨t, rfl, fun z => absurd z (h2 h).1, fun _ => ⟨rfl, (h2 h).2⟩⟩
theorem ok_heldbad (F : Fun K "held" "held" s_held f fd) (hm : mg "held" = some (.ref f)) (hb : Binds K fd ["setups", "top"] []) (Gs : Gx P w K mg base "need_setup" 3 ["setup"] (SNeedSX Es)) (Gt : Gx P w K mg base "need_top" 1 ["top"] (SNeedTopX Et)) : Gx P w K mg base "held" 4 ["setups", "top"] (SBadL Es Et) := by
  refine ok_defX F sc_heldx hm hb (monoBadL Es Et) (lenBadL Es Et) ?_
  rintro X rfl rfl rfl rfl rfl c hr ds M Q R ⟨ss, t, rfl, v, h1, h2⟩
  show SMx X _ [some (.lst (ss.map setupD)), some (.int t), none, none, none] M _ _
  refine SMx.seq (S1x.forr c (IW.list ?_))
  walk_at "e"
  refine ⟨_, rfl, fun i ρ' M' => M = M' ∧ (∀ r ∈ ss.take i, whyS r = "") ∧ ∃ x, ρ' = [some (.lst (ss.map setupD)), some (.int t), x, none, none], ⟨rfl, fun r h => (nomatch h), _, rfl⟩, ?_, ?_⟩
  · rintro i d ρ' M' hi ⟨rfl, hpre, x, rfl⟩
    obtain ⟨s, hs, rfl⟩ := get_map hi
    refine ⟨_, _, GM.name c (by walk_at "put"), ?_⟩
    refine SMx.last (S1x.expr (EMx.call c hr Gs ?_))
    walk_at "es"
    refine ⟨s, rfl, v s (List.mem_of_getElem? hs), fun h => ⟨rfl, rfl, fun r hr2 => ?_, _, rfl⟩, fun h => ⟨rfl, h1 i s hs hpre h⟩⟩
    rw [List.take_add_one, hs] at hr2
    rcases List.mem_append.mp hr2 with hr2 | hr2
    · exact hpre r hr2
    · rw [show r = s from by simpa using hr2]; exact h
  · rintro ρ' M' ⟨rfl, hpre, x, rfl⟩
    rw [List.length_map, List.take_length] at hpre
    refine SMx.seq (S1x.expr (EMx.call c hr Gt ?_))
    walk_at "es"
    exact ⟨t, rfl, fun z => absurd z (h2 hpre).1, fun _ => ⟨rfl, (h2 hpre).2⟩⟩
end
/-! ### a counter kept in copies -/
structure Ctr where
  s : Setup
  top : Int
  cells : List (Option Int)
  told : Int
  begun : Int
def cfs (q : Addr) (c : Ctr) : List (Str × D) := [("setup", setupD c.s), ("top", .int c.top), ("cells", .raw (.ref q)), ("told", .int c.told), ("begun", .int c.begun)]
def ctrM (p q C : Addr) (c : Ctr) : Mem := [(p, .ins C (cfs q c)), (q, .lst (c.cells.map cellD))]
theorem cfs_setup (q : Addr) (c : Ctr) : List.lookup ("setup" : Str) (cfs q c) = some (setupD c.s) := by rfl
theorem cfs_top (q : Addr) (c : Ctr) : List.lookup ("top" : Str) (cfs q c) = some (.int c.top) := by rfl
theorem cfs_cells (q : Addr) (c : Ctr) : List.lookup ("cells" : Str) (cfs q c) = some (.raw (.ref q)) := by rfl
theorem cfs_told (q : Addr) (c : Ctr) : List.lookup ("told" : Str) (cfs q c) = some (.int c.told) := by rfl
theorem cfs_begun (q : Addr) (c : Ctr) : List.lookup ("begun" : Str) (cfs q c) = some (.int c.begun) := by rfl
theorem put_told (q : Addr) (c : Ctr) (v : Int) : putD "told" (.int v) (cfs q c) = cfs q { c with told := v } := by rfl
theorem put_begun (q : Addr) (c : Ctr) (v : Int) : putD "begun" (.int v) (cfs q c) = cfs q { c with begun := v } := by rfl
theorem put_cells (q q' : Addr) (c : Ctr) : putD "cells" (.raw (.ref q')) (cfs q c) = cfs q' c := by rfl
theorem cfs_no {q : Addr} {c : Ctr} {m : Str} (h : m ≠ "setup" ∧ m ≠ "top" ∧ m ≠ "cells" ∧ m ≠ "told" ∧ m ≠ "begun") : (cfs q c).lookup m = none := by
  obtain ⟨h1, h2, h3, h4, h5⟩ := h
  unfold cfs
  simp only [List.lookup, beq_eq_false_iff_ne.mpr h1, beq_eq_false_iff_ne.mpr h2, beq_eq_false_iff_ne.mpr h3, beq_eq_false_iff_ne.mpr h4, beq_eq_false_iff_ne.mpr h5]
def initC (s : Setup) (t : Int) : Ctr := ⟨s, t, List.replicate s.copies.toNat (some 0), 0, 0⟩
/-- the class as the top has made it -/
structure Cc (K : PySem.W.Frag) (C : Addr) : Prop where
  cl : Cls K C
  nS : NoAttr K C "setup"
  nT : NoAttr K C "top"
  nC : NoAttr K C "cells"
  nO : NoAttr K C "told"
  nB : NoAttr K C "begun"
def SInit (C : Addr) : DA := fun ds M P => ∃ (p : Addr) (s : Setup) (t : Int), ds = [.raw (.ref p), setupD s, .int t] ∧ M = [(p, .ins C [])] ∧ (0 ≤ s.copies ∧ s.copies ≤ 1000) ∧ ∀ q, P .non (ctrM p q C (initC s t))
theorem monoInit (C : Addr) : DMono (SInit C) := fun ds M P P' h ⟨p, s, t, e1, e2, b, k⟩ => ⟨p, s, t, e1, e2, b, fun q => h _ _ (k q)⟩
theorem lenInit (C : Addr) : DLen (SInit C) 3 := fun ds M P ⟨p, s, t, e1, e2, b, k⟩ => by rw [e1] <;> rfl
theorem sc_init : FnScope ["self", "setup", "top"] ["self", "setup", "top"] (defScope s_Counter___init__) := ⟨rfl, rfl, rfl, by decide +kernel, rfl, by decide +kernel, by decide +kernel⟩
section
variable {P : Program} {w : World} {K : PySem.W.Frag} {mg : Str → Option Value} {base : Heap} {f C : Addr} {fd : FuncData}
theorem ok_init (F : Fun K "__init__" "Counter.__init__" s_Counter___init__ f fd) (M : Mk K C f) (hb : Binds K fd ["self", "setup", "top"] []) (hm : mg "Counter" = some (.ref C)) (Cc0 : Cc K C) : Gk P w K mg base "Counter" C 1 ["self", "setup", "top"] (SInit C) := by
  refine ⟨⟨f, fd, ok_fn F sc_init (lenInit C) ?_, M, hb, hm⟩, monoInit C⟩
  rintro X rfl rfl rfl rfl rfl c hr ds M Q ⟨p, s, t, rfl, rfl, b, hq⟩
  show SM X _ [some (.raw (.ref p)), some (setupD s), some (.int t)] _ _
  refine SM.seq (S1.fld ?_)
  walk_at "es"
  refine ⟨p, 0, C, [], rfl, rfl, Cc0.cl, Cc0.nS, by decide, ?_⟩
  refine SM.seq (S1.fld ?_)
  walk_at "es"
  refine ⟨p, 0, C, _, rfl, rfl, Cc0.cl, Cc0.nT, by show 1 < 1000; decide, ?_⟩
  refine SM.seq (S1.fld (EM.repM (EM.lst ?_)))
  walk_at "es"
  refine ⟨by show 1 ≤ sizeLine; decide, ?_⟩
  walk_at "es"
  refine ⟨_, rfl, by omega, by omega, by show 1 * s.copies.toNat ≤ sizeLine; exact Nat.le_trans (m := 1000) (by omega) (by decide), fun q => ?_⟩
  walk_at "es"
  refine ⟨p, 1, C, _, rfl, rfl, Cc0.cl, Cc0.nC, by show 2 < 1000; decide, ?_⟩
  dsimp only [List.set]
  refine SM.swap (SM.seq (S1.fld ?_))
  walk_at "es"
  refine ⟨p, 0, C, _, rfl, rfl, Cc0.cl, Cc0.nO, by show 3 < 1000; decide, ?_⟩
  refine SM.last (S1.fld ?_)
  walk_at "es"
  refine ⟨p, 0, C, _, rfl, rfl, Cc0.cl, Cc0.nB, by show 4 < 1000; decide, ?_⟩
  have e1 : putD "begun" (.int 0) (putD "told" (.int 0) (putD "cells" (.raw (.ref q)) (putD "top" (.int t) (putD "setup" (setupD s) [])))) = cfs q (initC s t) := by rfl
  have e2 : (List.replicate s.copies.toNat [D.int 0]).flatten = (initC s t).cells.map cellD := by
    show _ = (List.replicate s.copies.toNat (some 0)).map cellD
    rw [List.map_replicate]
    generalize s.copies.toNat = n
    induction n with
    | zero => rfl
    | succ n ih => rw [List.replicate_succ, List.flatten_cons, ih, List.replicate_succ] <;> rfl
  dsimp only [List.set]
  rw [e1, e2]
  exact hq q
/-! read -/
def readC (c : Ctr) : Option Int := readAs c.s.reader c.cells
def SRead (C : Addr) : DA := fun ds M P => ∃ (p q : Addr) (c : Ctr), ds = [.raw (.ref p)] ∧ M = ctrM p q C c ∧ c.cells.length ≤ 1000 ∧ P (cellD (readC c)) M
theorem monoRead (C : Addr) : DMono (SRead C) := fun ds M P P' h ⟨p, q, c, e1, e2, b, k⟩ => ⟨p, q, c, e1, e2, b, h _ _ k⟩
theorem lenRead (C : Addr) : DLen (SRead C) 1 := fun ds M P ⟨p, q, c, e1, e2, b, k⟩ => by rw [e1] <;> rfl
theorem sc_read : FnScope ["self"] ["self"] (defScope s_Counter_read) := ⟨rfl, rfl, rfl, by decide +kernel, rfl, by decide +kernel, by decide +kernel⟩
theorem scal_cell (c : Option Int) : (cellD c).scal = true := by cases c <;> rfl
theorem ok_read (F : Fun K "read" "Counter.read" s_Counter_read f fd) (M : Meth K C "read" f) (hb : Binds K fd ["self"] []) (Cc0 : Cc K C) (Gr : Gd P w K mg base "read_as" 1 ["reader", "cells"] SReadAs) : Gm P w K mg base C "read" 2 ["self"] (SRead C) := by
  refine ⟨⟨f, fd, ok_fn F sc_read (lenRead C) ?_, M, hb⟩, monoRead C, Cc0.cl⟩
  rintro X rfl rfl rfl rfl rfl c hr ds M Q ⟨p, q, r, rfl, rfl, b, hq⟩
  show SM X _ [some (.raw (.ref p))] _ _
  refine SM.last (S1.ret (EM.callL c hr Gr (AM.cons (EM.ix ix_seq dIx (EM.fld ?_)))))
  walk_at "e"
  refine ⟨p, 0, C, _, _, rfl, rfl, Cc0.cl, Cc0.nS, cfs_setup q r, ?_⟩
  walk_at "es"
  refine ⟨_, rfl, AM.cons (EM.fld ?_)⟩
  walk_at "e"
  refine ⟨p, 0, C, _, _, rfl, rfl, Cc0.cl, Cc0.nC, cfs_cells q r, ?_⟩
  walk_at "es"
  refine ⟨_, .cons (.same _) (.cons (.cell (k := 1) rfl) .nil), r.s.reader, r.cells, rfl, b, rfl, scal_cell _, hq⟩
/-! writes -/
abbrev Wr : Type := Int × Int × Bool
def wD (x : Wr) : D := .tup [.int x.1, .int x.2.1, .bl x.2.2]
def rowW (r : List Int) (m : Int) : List Wr := (List.range r.length).map fun (k : Nat) => (r.getD k 0, m, decide ((k : Int) = (r.length : Int) - 1))
def writesOf (s : Setup) (top n : Int) : List Wr := (s.mends.map fun c => (c, n, false)) ++ ((List.range (top - n).toNat).map fun (j : Nat) => rowW (rowFor s (n + 1 + (j : Int))) (n + 1 + (j : Int))).flatten
theorem rowW_length (r : List Int) (m : Int) : (rowW r m).length = r.length := by unfold rowW; rw [List.length_map, List.length_range]
theorem flatten_le {α : Type} {k : Nat} : ∀ {ls : List (List α)}, (∀ l ∈ ls, l.length ≤ k) → ls.flatten.length ≤ k * ls.length
  | [], _ => by simp
  | l :: ls, h => by
    have h1 := h l List.mem_cons_self
    have h2 := flatten_le (k := k) (ls := ls) fun m hm => h m (List.mem_cons_of_mem _ hm)
    rw [List.flatten_cons, List.length_append, List.length_cons, Nat.mul_succ]
    omega
theorem writes_le {s : Setup} (v : Valid s) {top n : Int} {i : Nat} (hi : i ≤ (top - n).toNat) (ht : (top - n).toNat ≤ 1000) : ((s.mends.map fun c => ((c, n, false) : Wr)) ++ ((List.range i).map fun (j : Nat) => rowW (rowFor s (n + 1 + (j : Int))) (n + 1 + (j : Int))).flatten).length ≤ 10000 := by
  rw [List.length_append, List.length_map]
  have h1 := areC_len v.mends
  have h2 := flatten_le (k := 6) (ls := (List.range i).map fun (j : Nat) => rowW (rowFor s (n + 1 + (j : Int))) (n + 1 + (j : Int))) fun l hl => by
    obtain ⟨j, _, rfl⟩ := List.mem_map.mp hl
    rw [rowW_length]
    exact areC_len (rowFor_ok v _).2
  rw [List.length_map, List.length_range] at h2
  omega
def SWrites (C : Addr) : DA := fun ds M P => ∃ (p q : Addr) (c : Ctr) (n : Int), ds = [.raw (.ref p), .int n] ∧ M = ctrM p q C c ∧ Valid c.s ∧ (-1000 ≤ n ∧ n ≤ 1000) ∧ (-1000 ≤ c.top ∧ c.top ≤ 1000) ∧ (c.top - n).toNat ≤ 1000 ∧ P (.lst ((writesOf c.s c.top n).map wD)) M
theorem monoWrites (C : Addr) : DMono (SWrites C) := fun ds M P P' h ⟨p, q, c, n, e1, e2, v, b1, b2, b3, k⟩ => ⟨p, q, c, n, e1, e2, v, b1, b2, b3, h _ _ k⟩
theorem lenWrites (C : Addr) : DLen (SWrites C) 2 := fun ds M P ⟨p, q, c, n, e1, e2, v, b1, b2, b3, k⟩ => by rw [e1] <;> rfl
abbrev nWrites : List Str := ["self", "number", "found", "more", "row", "copy", "k"]
theorem sc_writes : FnScope nWrites ["self", "number"] (defScope s_Counter_writes) := ⟨rfl, rfl, rfl, by decide +kernel, rfl, by decide +kernel, by decide +kernel⟩
theorem ok_writes (F : Fun K "writes" "Counter.writes" s_Counter_writes f fd) (M : Meth K C "writes" f) (hb : Binds K fd ["self", "number"] []) (Cc0 : Cc K C) (T : Bn mg) (Gr : Gd P w K mg base "row_for" 1 ["setup", "number"] SRowFor) : Gm P w K mg base C "writes" 2 ["self", "number"] (SWrites C) := by
  refine ⟨⟨f, fd, ok_fn F sc_writes (lenWrites C) ?_, M, hb⟩, monoWrites C, Cc0.cl⟩
  rintro X rfl rfl rfl rfl rfl c hr ds M Q ⟨p, q, r, n, rfl, rfl, v, b1, b2, b3, hq⟩
  have hu := hr.units
  show SM X _ [some (.raw (.ref p)), some (.int n), none, none, none, none, none] _ _
  refine SM.seq (S1.setMapM (α := Int) c (by walk_at "wp") (IW.tup (EM.ix ix_seq dIx (EM.fld ?_))))
  walk_at "e"
  refine ⟨p, 0, C, _, _, rfl, rfl, Cc0.cl, Cc0.nS, cfs_setup q r, ?_⟩
  walk_at "es"
  refine ⟨_, rfl, _, rfl, r.s.mends, D.int, fun x => wD (x, n, false), rfl, by have := areC_len v.mends; omega, fun x _ => ⟨_, by walk_at "put", fun s1 H0 C1 cl fp => ?_⟩, fun a => ⟨_, by walk_at "put", ?_⟩⟩
  · walk_at "es"
    exact ⟨by show 3 ≤ sizeLine; decide, rfl, rfl⟩
  refine SM.seq (S1.forr c (i_range2 c T ?_))
  walk_at "es"
  refine EM.fld ?_
  walk_at "e"
  refine ⟨p, 1, C, _, _, rfl, rfl, Cc0.cl, Cc0.nT, cfs_top q r, ?_⟩
  walk_at "es"
  refine ⟨_, _, rfl, rfl, ⟨by omega, by omega, by omega, by omega⟩, fun i ρ' M' => M' = (a, .lst (((r.s.mends.map fun c => ((c, n, false) : Wr)) ++ ((List.range i).map fun (j : Nat) => rowW (rowFor r.s (n + 1 + (j : Int))) (n + 1 + (j : Int))).flatten).map wD)) :: ctrM p q C r ∧ ∃ x y, ρ' = [some (.raw (.ref p)), some (.int n), some (.raw (.ref a)), x, y, none, none], ⟨?_, _, _, rfl⟩, ?_, ?_⟩
  · rw [List.range_zero, List.map_nil, List.flatten_nil, List.append_nil, List.map_map] <;> rfl
  · rintro i x ρ' M' hi ⟨rfl, x0, y0, rfl⟩
    have hil : i < (r.top + 1 - (n + 1)).toNat := by
      have := (List.getElem?_eq_some_iff.mp hi).1
      rwa [rngD_length] at this
    rw [rngD_get hil] at hi
    cases hi
    refine ⟨_, _, GM.name c (by walk_at "put"), ?_⟩
    refine SM.seq (S1.set c (EM.call c hr Gr (AM.cons (EM.fld ?_))))
    walk_at "e"
    refine ⟨p, 1, C, _, _, rfl, rfl, Cc0.cl, Cc0.nS, cfs_setup q r, ?_⟩
    walk_at "es"
    refine ⟨r.s, _, rfl, v.turns.1, _, by walk_at "put", ?_⟩
    have hrow := rowFor_ok v (n + 1 + (i : Int))
    have hrl := areC_len hrow.2
    generalize hrr : rowFor r.s (n + 1 + (i : Int)) = row at hrow hrl
    refine SM.last (S1.expr (EM.extend ?_))
    walk_at "e"
    refine ⟨⟨a, 0, _, rfl, rfl⟩, EM.lcMap (α := Nat) c (by walk_at "wp") (i_range1 c T ?_)⟩
    walk_at "c"; walk_at "e"
    rw [List.length_map]
    refine ⟨_, rfl, ⟨by omega, by omega⟩, List.range row.length, fun k => .int ((0 : Int) + (k : Nat)), fun (k : Nat) => wD (row.getD k 0, n + 1 + (i : Int), decide ((k : Int) = (row.length : Int) - 1)), rfl, by rw [List.length_range]; omega, fun k hk => ⟨_, by walk_at "put", fun s1 H0 C1 cl fp => ?_⟩, ?_⟩
    · have hkl : k < row.length := List.mem_range.mp hk
      walk_at "es"
      refine ⟨.int (row.getD k 0), atI_is k (by omega) ?_, ?_⟩
      · rw [List.getElem?_map, List.getD_eq_getElem?_getD, List.getElem?_eq_getElem hkl] <;> rfl
      walk_at "es"; walk_at "c"; walk_at "es"
      refine ⟨trivial, ?_⟩
      walk_at "es"
      refine ⟨by show 3 ≤ sizeLine; decide, ?_, rfl⟩
      rw [List.length_map, Int.zero_add]
      rfl
    · have e1 : (List.range row.length).map (fun (k : Nat) => wD (row.getD k 0, n + 1 + (i : Int), decide ((k : Int) = (row.length : Int) - 1))) = (rowW row (n + 1 + (i : Int))).map wD := by unfold rowW; rw [List.map_map] <;> rfl
      rw [e1]
      have wl := writes_le v (top := r.top) (n := n) (i := i) (by omega) b3
      refine ⟨a, 0, _, _, rfl, rfl, rfl, ?_, ⟨?_, _, _, rfl⟩⟩
      · rw [List.length_map, List.length_map, rowW_length]
        exact Nat.le_trans (m := 20000) (by omega) (by decide)
      · dsimp only [List.set]
        rw [List.range_succ]
        simp only [List.map_append, List.flatten_append, List.map_cons, List.map_nil, List.flatten_cons, List.flatten_nil, List.append_nil, List.append_assoc, hrr]
  · rintro ρ' M' ⟨rfl, x0, y0, rfl⟩
    rw [rngD_length]
    have e2 : (r.top + 1 - (n + 1)).toNat = (r.top - n).toNat := by omega
    rw [e2]
    refine SM.freeze (N := nWrites) (x := "found") (k := 0) rfl (by walk_at "at") (by walk_at "put") ?_
    refine SM.last (S1.ret ?_)
    walk_at "e"
    exact hq
end
/-! ### a stretch of power -/
theorem writes_in {s : Setup} (v : Valid s) {top n : Int} : ∀ x ∈ writesOf s top n, 0 ≤ x.1 ∧ x.1 < s.copies := by
  intro x hx
  unfold writesOf at hx
  rcases List.mem_append.mp hx with hx | hx
  · obtain ⟨c, hc, rfl⟩ := List.mem_map.mp hx
    exact areC_in v.mends c hc
  · obtain ⟨l, hl, hx⟩ := List.mem_flatten.mp hx
    obtain ⟨j, _, rfl⟩ := List.mem_map.mp hl
    unfold rowW at hx
    obtain ⟨k, hk, rfl⟩ := List.mem_map.mp hx
    have hk := List.mem_range.mp hk
    refine areC_in (rowFor_ok v (n + 1 + (j : Int))).2 _ ?_
    rw [List.getD_eq_getElem?_getD, List.getElem?_eq_getElem hk]
    exact List.getElem_mem hk
def stepC (c : Ctr) (x : Wr) : Ctr := { c with cells := c.cells.set x.1.toNat (some x.2.1), begun := max c.begun x.2.1, told := if x.2.2 then x.2.1 else c.told }
def tearC (c : Ctr) (x : Wr) (t : Int) : Ctr := { c with cells := c.cells.set x.1.toNat (if t = -1 then none else some t), begun := max c.begun x.2.1 }
def tornC (c2 : Ctr) (rows : List Wr) (many : Nat) : Option Int → Ctr
  | none => c2
  | some t => tearC c2 (rows.getD many (0, 0, false)) t
def powerC (c : Ctr) (n : Int) (many : Nat) (torn : Option Int) : Ctr :=
  tornC (((writesOf c.s c.top n).take many).foldl stepC { c with told := n }) (writesOf c.s c.top n) many torn
theorem stepC_keeps (c : Ctr) (x : Wr) : (stepC c x).s = c.s ∧ (stepC c x).top = c.top ∧ (stepC c x).cells.length = c.cells.length := ⟨rfl, rfl, by unfold stepC; rw [List.length_set]⟩
theorem foldC_keeps : ∀ (xs : List Wr) (c : Ctr), (xs.foldl stepC c).s = c.s ∧ (xs.foldl stepC c).top = c.top ∧ (xs.foldl stepC c).cells.length = c.cells.length
  | [], c => ⟨rfl, rfl, rfl⟩
  | x :: xs, c => by
    obtain ⟨h1, h2, h3⟩ := foldC_keeps xs (stepC c x)
    obtain ⟨g1, g2, g3⟩ := stepC_keeps c x
    rw [List.foldl_cons]
    exact ⟨h1.trans g1, h2.trans g2, h3.trans g3⟩
theorem powerC_keeps (c : Ctr) (n : Int) (many : Nat) (torn : Option Int) : (powerC c n many torn).s = c.s ∧ (powerC c n many torn).top = c.top ∧ (powerC c n many torn).cells.length = c.cells.length := by
  obtain ⟨h1, h2, h3⟩ := foldC_keeps ((writesOf c.s c.top n).take many) { c with told := n }
  unfold powerC
  cases torn with
  | none => exact ⟨h1, h2, h3⟩
  | some t => exact ⟨h1, h2, by show (tearC _ _ _).cells.length = _; unfold tearC; rw [List.length_set]; exact h3⟩
/-- what a counter is like between two stretches -/
structure COk (c : Ctr) : Prop where
  v : Valid c.s
  len : (c.cells.length : Int) = c.s.copies
  top : -1000 ≤ c.top ∧ c.top ≤ 1000
theorem COk.few {c : Ctr} (h : COk c) : c.cells.length ≤ 1000 := by
  have := h.len; have := h.v.copies; omega
def SPower (C : Addr) : DA := fun ds M P => ∃ (p q : Addr) (c : Ctr) (n : Int) (many : Nat) (torn : Option Int), ds = [.raw (.ref p), .int (many : Int), cellD torn] ∧ M = ctrM p q C c ∧ COk c ∧ readC c = some n ∧ (-1000 ≤ n ∧ n ≤ 1000) ∧ (c.top - n).toNat ≤ 1000 ∧ many ≤ (writesOf c.s c.top n).length ∧ (torn.isSome = true → many < (writesOf c.s c.top n).length) ∧ P (.int n) (ctrM p q C (powerC c n many torn))
theorem monoPower (C : Addr) : DMono (SPower C) := fun ds M P P' h ⟨p, q, c, n, m, t, e1, e2, v, b1, b2, b3, b4, b5, k⟩ => ⟨p, q, c, n, m, t, e1, e2, v, b1, b2, b3, b4, b5, h _ _ k⟩
theorem lenPower (C : Addr) : DLen (SPower C) 3 := fun ds M P ⟨p, q, c, n, m, t, e1, e2, v, b1, b2, b3, b4, b5, k⟩ => by rw [e1] <;> rfl
abbrev nPower : List Str := ["self", "many", "torn", "number", "rows", "copy", "worth", "closes"]
theorem sc_power : FnScope nPower ["self", "many", "torn"] (defScope s_Counter_power) := ⟨rfl, rfl, rfl, by decide +kernel, rfl, by decide +kernel, by decide +kernel⟩
theorem not_own {m : Str} (h : (["setup", "top", "cells", "told", "begun"] : List Str).contains m = false) : m ≠ "setup" ∧ m ≠ "top" ∧ m ≠ "cells" ∧ m ≠ "told" ∧ m ≠ "begun" := by
  simp at h
  exact h
theorem cells_set (cs : List (Option Int)) (i : Nat) (x : Option Int) : (cs.set i x).map cellD = (cs.map cellD).set i (cellD x) := List.map_set
section
variable {P : Program} {w : World} {K : PySem.W.Frag} {mg : Str → Option Value} {base : Heap} {f C : Addr} {fd : FuncData}
theorem ok_power (F : Fun K "power" "Counter.power" s_Counter_power f fd) (M : Meth K C "power" f) (hb : Binds K fd ["self", "many", "torn"] []) (Cc0 : Cc K C) (T : Bn mg) (hB : KI mg "BROKEN" (-1)) (Gr : Gm P w K mg base C "read" 2 ["self"] (SRead C)) (Gw : Gm P w K mg base C "writes" 2 ["self", "number"] (SWrites C)) : Gm P w K mg base C "power" 3 ["self", "many", "torn"] (SPower C) := by
  refine ⟨⟨f, fd, ok_fn F sc_power (lenPower C) ?_, M, hb⟩, monoPower C, Cc0.cl⟩
  rintro X rfl rfl rfl rfl rfl c hr ds M Q ⟨p, q, r, n, many, torn, rfl, rfl, ok, hrd, b1, b2, hmany, htorn, hq⟩
  have hu := hr.units
  have noR : (cfs q r).lookup ("read" : Str) = none := cfs_no (not_own (by decide +kernel))
  show SM X _ [some (.raw (.ref p)), some (.int (many : Int)), some (cellD torn), none, none, none, none, none] _ _
  -- number = self.read()
  refine SM.seq (S1.set c (EM.meth0 hr Gr ?_))
  walk_at "e"
  refine ⟨p, 0, _, rfl, rfl, noR, _, [], rfl, p, q, r, rfl, (List.append_nil _), ok.few, _, by walk_at "put", ?_⟩
  rw [hrd]
  -- self.told = number
  refine SM.seq (S1.fld ?_)
  walk_at "es"
  refine ⟨p, 0, C, _, rfl, rfl, Cc0.cl, Cc0.nO, by show 5 < 1000; decide, ?_⟩
  show SM X _ _ [(p, .ins C (putD "told" (.int n) (cfs q r))), (q, .lst (r.cells.map cellD))] _
  rw [put_told]
  -- rows = self.writes(number)
  refine SM.seq (S1.set c (EM.meth hr Gw ?_))
  walk_at "e"
  refine ⟨p, 0, _, rfl, rfl, cfs_no (not_own (by decide +kernel)), ?_⟩
  walk_at "es"
  refine ⟨_, [], (List.append_nil _).symm, p, q, { r with told := n }, n, rfl, rfl, ok.v, b1, ok.top, b2, _, by walk_at "put", ?_⟩
  rw [List.append_nil]
  generalize hrows : writesOf r.s r.top n = rows at hmany htorn
  have hin : ∀ x ∈ rows, 0 ≤ x.1 ∧ x.1 < r.s.copies := by rw [← hrows]; exact writes_in ok.v
  show SM X _ [some (.raw (.ref p)), some (.int (many : Int)), some (cellD torn), some (.int n), some (.lst (rows.map wD)), none, none, none] _ _
  -- for copy, worth, closes in rows[:many]
  refine SM.seq (S1.forr c (IW.list (EM.sliceHi ?_)))
  walk_at "es"
  refine ⟨_, many, rfl, rfl, _, rfl, fun i ρ' M' => M' = ctrM p q C ((rows.take i).foldl stepC { r with told := n }) ∧ ∃ x y z, ρ' = [some (.raw (.ref p)), some (.int (many : Int)), some (cellD torn), some (.int n), some (.lst (rows.map wD)), x, y, z], ⟨rfl, _, _, _, rfl⟩, ?_, ?_⟩
  · rintro i d ρ' M' hi ⟨rfl, x0, y0, z0, rfl⟩
    rw [← List.map_take, List.getElem?_map] at hi
    obtain ⟨x, hx, rfl⟩ : ∃ x, (rows.take many)[i]? = some x ∧ d = wD x := by
      cases e : (rows.take many)[i]? with
      | none => rw [e] at hi; cases hi
      | some x => rw [e] at hi; exact ⟨x, rfl, (Option.some.inj hi).symm⟩
    have him : i < many := by
      have := (List.getElem?_eq_some_iff.mp hx).1
      rw [List.length_take] at this
      omega
    rw [List.getElem?_take_of_lt him] at hx
    have hxin := hin x (List.mem_of_getElem? hx)
    obtain ⟨k1, k2, k3⟩ := foldC_keeps (rows.take i) { r with told := n }
    have e1 : rows.take (i + 1) = rows.take i ++ [x] := by rw [List.take_add_one, hx] <;> rfl
    generalize hci : (rows.take i).foldl stepC { r with told := n } = ci at k1 k2 k3
    refine ⟨_, _, GM.tup c (GMs.cons (GM.name c (by walk_at "put")) (GMs.cons (GM.name c (by walk_at "put")) (GMs.cons (GM.name c (by walk_at "put")) GMs.nil))), ?_⟩
    have hcl : x.1 < (ci.cells.length : Int) := by rw [k3]; have := ok.len; show x.1 < (r.cells.length : Int); omega
    refine SM.seq (S1.sub ?_)
    walk_at "e"
    refine EM.fld ?_
    walk_at "e"
    refine ⟨p, 0, C, _, _, rfl, rfl, Cc0.cl, Cc0.nC, cfs_cells q ci, ?_⟩
    walk_at "e"
    refine ⟨q, 1, _, x.1, x.1.toNat, rfl, rfl, rfl, ?_, ?_⟩
    · rw [List.length_map]
      unfold L2.ixN
      rw [if_pos hxin.1, if_pos hcl]
    rw [show ((ctrM p q C ci).set 1 (q, MO.lst ((ci.cells.map cellD).set x.1.toNat (.int x.2.1)))) = ctrM p q C { ci with cells := ci.cells.set x.1.toNat (some x.2.1) } by unfold ctrM; rw [cells_set] <;> rfl]
    refine SM.seq (S1.fld ?_)
    refine e_max2 c T (EM.fld ?_)
    walk_at "e"
    refine ⟨p, 0, C, _, _, rfl, rfl, Cc0.cl, Cc0.nB, cfs_begun q _, ?_⟩
    walk_at "es"
    refine ⟨p, 0, C, _, rfl, rfl, Cc0.cl, Cc0.nB, by show 5 < 1000; decide, ?_⟩
    show SM X _ _ [(p, .ins C (putD "begun" (.int (max ci.begun x.2.1)) (cfs q { ci with cells := ci.cells.set x.1.toNat (some x.2.1) }))), (q, .lst ((ci.cells.set x.1.toNat (some x.2.1)).map cellD))] _
    rw [put_begun]
    refine SM.last (S1.ife (TM.val ?_))
    walk_at "e"
    refine ⟨_, rfl, ?_⟩
    have e2 : (rows.take (i + 1)).foldl stepC { r with told := n } = stepC ci x := by rw [e1, List.foldl_append, hci] <;> rfl
    by_cases h3 : x.2.2 = true
    · refine ifT h3 (SM.last (S1.fld ?_))
      walk_at "es"
      refine ⟨p, 0, C, _, rfl, rfl, Cc0.cl, Cc0.nO, by show 5 < 1000; decide, ?_, _, _, _, rfl⟩
      rw [e2]
      show [(p, MO.ins C (putD "told" (.int x.2.1) (cfs q _))), (q, _)] = _
      rw [put_told]
      unfold stepC
      rw [if_pos h3] <;> rfl
    · have h4 : x.2.2 = false := by simpa using h3
      refine ifF h4 (SM.nil ⟨?_, _, _, _, rfl⟩)
      rw [e2]
      unfold stepC
      rw [if_neg h3] <;> rfl
  · rintro ρ' M' ⟨rfl, x0, y0, z0, rfl⟩
    rw [List.length_take, List.length_map, Nat.min_eq_left hmany]
    obtain ⟨k1, k2, k3⟩ := foldC_keeps (rows.take many) { r with told := n }
    have hpw : powerC r n many torn = tornC ((rows.take many).foldl stepC { r with told := n }) rows many torn := by unfold powerC; rw [hrows]
    generalize hci : (rows.take many).foldl stepC { r with told := n } = ci at k1 k2 k3 hpw
    refine SM.seq (S1.ife ?_)
    walk_at "es"
    cases torn with
    | none =>
      refine ⟨_, rfl, ifF rfl (SM.nil ?_)⟩
      refine SM.last (S1.ret ?_)
      walk_at "e"
      rw [hpw] at hq
      exact hq
    | some t =>
      have hm2 := htorn rfl
      obtain ⟨x, hx⟩ : ∃ x, rows[many]? = some x := ⟨rows[many], List.getElem?_eq_getElem hm2⟩
      have hxin := hin x (List.mem_of_getElem? hx)
      have hgd : rows.getD many (0, 0, false) = x := by rw [List.getD_eq_getElem?_getD, hx] <;> rfl
      have hcl : x.1 < (ci.cells.length : Int) := by rw [k3]; have := ok.len; show x.1 < (r.cells.length : Int); omega
      refine ⟨_, rfl, ifT rfl ?_⟩
      refine SM.seq (S1.asg c ?_)
      walk_at "es"
      refine ⟨wD x, atI_is many rfl (by rw [List.getElem?_map, hx] <;> rfl), _, _, GM.tup c (GMs.cons (GM.name c (by walk_at "put")) (GMs.cons (GM.name c (by walk_at "put")) (GMs.cons (GM.name c (by walk_at "put")) GMs.nil))), ?_⟩
      refine SM.seq (S1.sub (EM.to (P := fun d M' => d = cellD (if t = -1 then none else some t) ∧ M' = ctrM p q C ci) (EM.ife ?_) ?_))
      · walk_at "es"
        refine EM.gint c hB ?_
        refine ⟨_, rfl, ?_⟩
        by_cases h1 : t = -1
        · refine ifT (decide_eq_true h1) ?_
          walk_at "e"
          rw [if_pos h1]
          exact ⟨rfl, rfl⟩
        · refine ifF (decide_eq_false h1) ?_
          walk_at "e"
          rw [if_neg h1]
          exact ⟨rfl, rfl⟩
      rintro d M' ⟨rfl, rfl⟩
      refine EM.fld ?_
      walk_at "e"
      refine ⟨p, 0, C, _, _, rfl, rfl, Cc0.cl, Cc0.nC, cfs_cells q ci, ?_⟩
      walk_at "e"
      refine ⟨q, 1, _, x.1, x.1.toNat, rfl, rfl, rfl, ?_, ?_⟩
      · rw [List.length_map]
        unfold L2.ixN
        rw [if_pos hxin.1, if_pos hcl]
      rw [show ((ctrM p q C ci).set 1 (q, MO.lst ((ci.cells.map cellD).set x.1.toNat (cellD (if t = -1 then none else some t))))) = ctrM p q C { ci with cells := ci.cells.set x.1.toNat (if t = -1 then none else some t) } by unfold ctrM; rw [cells_set] <;> rfl]
      refine SM.last (S1.fld ?_)
      refine e_max2 c T (EM.fld ?_)
      walk_at "e"
      refine ⟨p, 0, C, _, _, rfl, rfl, Cc0.cl, Cc0.nB, cfs_begun q _, ?_⟩
      walk_at "es"
      refine ⟨p, 0, C, _, rfl, rfl, Cc0.cl, Cc0.nB, by show 5 < 1000; decide, ?_⟩
      refine SM.last (S1.ret ?_)
      walk_at "e"
      rw [hpw] at hq
      unfold tornC at hq
      rw [hgd] at hq
      exact hq
end
/-! ### what is amiss -/
def faultOf : Option Int → Int → Int → Str
  | none, _, _ => "lost"
  | some n, t, b => if n < t then "back" else if b < n then "ahead" else ""
def faultC (c : Ctr) : Str := faultOf (readC c) c.told c.begun
def SFault (C : Addr) : DA := fun ds M P => ∃ (p q : Addr) (c : Ctr), ds = [.raw (.ref p)] ∧ M = ctrM p q C c ∧ c.cells.length ≤ 1000 ∧ P (.str (faultC c)) M
theorem monoFault (C : Addr) : DMono (SFault C) := fun ds M P P' h ⟨p, q, c, e1, e2, b, k⟩ => ⟨p, q, c, e1, e2, b, h _ _ k⟩
theorem lenFault (C : Addr) : DLen (SFault C) 1 := fun ds M P ⟨p, q, c, e1, e2, b, k⟩ => by rw [e1] <;> rfl
theorem sc_fault : FnScope ["self", "number"] ["self"] (defScope s_Counter_fault) := ⟨rfl, rfl, rfl, by decide +kernel, rfl, by decide +kernel, by decide +kernel⟩
section
variable {P : Program} {w : World} {K : PySem.W.Frag} {mg : Str → Option Value} {base : Heap} {f C : Addr} {fd : FuncData}
theorem ok_fault (F : Fun K "fault" "Counter.fault" s_Counter_fault f fd) (M : Meth K C "fault" f) (hb : Binds K fd ["self"] []) (Cc0 : Cc K C) (Gr : Gm P w K mg base C "read" 2 ["self"] (SRead C)) : Gm P w K mg base C "fault" 3 ["self"] (SFault C) := by
  refine ⟨⟨f, fd, ok_fn F sc_fault (lenFault C) ?_, M, hb⟩, monoFault C, Cc0.cl⟩
  rintro X rfl rfl rfl rfl rfl c hr ds M Q ⟨p, q, r, rfl, rfl, b, hq⟩
  show SM X _ [some (.raw (.ref p)), none] _ _
  refine SM.seq (S1.set c (EM.meth0 hr Gr ?_))
  walk_at "e"
  refine ⟨p, 0, _, rfl, rfl, cfs_no (not_own (by decide +kernel)), _, [], rfl, p, q, r, rfl, (List.append_nil _), b, _, by walk_at "put", ?_⟩
  rw [List.append_nil]
  refine SM.seq (S1.ife ?_)
  unfold faultC at hq
  cases hn : readC r with
  | none =>
    rw [hn] at hq
    walk_at "es"
    refine ⟨_, rfl, ifT rfl (SM.last (S1.ret ?_))⟩
    walk_at "e"
    exact hq
  | some n =>
    rw [hn] at hq
    walk_at "es"
    refine ⟨_, rfl, ifF rfl (SM.nil ?_)⟩
    refine SM.seq (S1.ife (TM.lt ?_))
    walk_at "e"
    refine EM.fld ?_
    walk_at "e"
    refine ⟨p, 0, C, _, _, rfl, rfl, Cc0.cl, Cc0.nO, cfs_told q r, ?_⟩
    refine ⟨trivial, _, rfl, ?_⟩
    by_cases h1 : n < r.told
    · refine ifT (decide_eq_true h1) (SM.last (S1.ret ?_))
      walk_at "e"
      rw [show faultOf (some n) r.told r.begun = "back" from if_pos h1] at hq
      exact hq
    · refine ifF (decide_eq_false h1) (SM.nil (SM.last (S1.ret (EM.ife (TM.gt ?_)))))
      walk_at "e"
      refine EM.fld ?_
      walk_at "e"
      refine ⟨p, 0, C, _, _, rfl, rfl, Cc0.cl, Cc0.nB, cfs_begun q r, ?_⟩
      refine ⟨trivial, _, rfl, ?_⟩
      by_cases h2 : r.begun < n
      · refine ifT (decide_eq_true h2) ?_
        walk_at "e"
        rw [show faultOf (some n) r.told r.begun = "ahead" from (if_neg h1).trans (if_pos h2)] at hq
        exact hq
      · refine ifF (decide_eq_false h2) ?_
        walk_at "e"
        rw [show faultOf (some n) r.told r.begun = "" from (if_neg h1).trans (if_neg h2)] at hq
        exact hq
end
/-! ### stretches that may come -/
def isTorn (kind : Str) (top t : Int) : Bool := if kind = "checked" then decide (t = -1) else decide (0 ≤ t) && decide (t ≤ top)
abbrev Strch : Type := Int × Option Int
def strD (x : Strch) : D := .tup [.int x.1, cellD x.2]
/-- behind a stretch -/
def next (c : Ctr) (x : Strch) : Ctr := powerC c ((readC c).getD 0) x.1.toNat x.2
def rowsAt (c : Ctr) : List Wr := writesOf c.s c.top ((readC c).getD 0)
/-- a stretch may come -/
structure May (c : Ctr) (x : Strch) : Prop where
  calm : faultC c = ""
  lo : 0 ≤ x.1
  hi : x.1 ≤ ((rowsAt c).length : Int)
  torn : ∀ t, x.2 = some t → x.1 < ((rowsAt c).length : Int) ∧ isTorn c.s.kind c.top t = true
def Comes : Ctr → List Strch → Prop
  | _, [] => True
  | c, x :: xs => May c x ∧ Comes (next c x) xs
theorem Comes.take : ∀ {xs : List Strch} {c : Ctr} {i : Nat} {x : Strch}, Comes c xs → xs[i]? = some x → May ((xs.take i).foldl next c) x
  | [], _, _, _, _, h => by simp at h
  | y :: xs, c, 0, x, h, e => by
    have e2 : y = x := by simpa using e
    subst e2
    exact h.1
  | y :: xs, c, i + 1, x, h, e => by
    rw [List.take_succ_cons, List.foldl_cons]
    exact Comes.take h.2 (by simpa using e)
/-- the counter's numbers lie between 0 and the top -/
structure CInv (c : Ctr) : Prop where
  ok : COk c
  top : 1 ≤ c.top ∧ c.top ≤ 10
  cells : ∀ v, some v ∈ c.cells → 0 ≤ v ∧ v ≤ c.top
theorem nums_mem {cs : List (Option Int)} {v : Int} (h : v ∈ nums cs) : some v ∈ cs := by
  unfold nums at h
  obtain ⟨c, hc, rfl⟩ := List.mem_map.mp h
  obtain ⟨h1, h2⟩ := List.mem_filter.mp hc
  cases c with
  | none => cases h2
  | some x => exact h1
theorem readAs_mem {r : Str} {cs : List (Option Int)} {n : Int} (h : readAs r cs = some n) : some n ∈ cs := by
  have hR : readAs r cs = (if goodOf cs = [] then none else if r = "most" then some ((goodOf cs).getD ((goodOf cs).length - 1) 0) else if r = "least" then some ((goodOf cs).getD 0 0) else some ((goodOf cs).getD (((goodOf cs).length - 1) / 2) 0)) := rfl
  rw [hR] at h
  by_cases h0 : goodOf cs = []
  · rw [if_pos h0] at h; cases h
  rw [if_neg h0] at h
  have hl := List.length_pos_iff.mpr h0
  have key : ∀ i, i < (goodOf cs).length → some ((goodOf cs).getD i 0) ∈ cs := fun i hi => nums_mem ((List.mergeSort_perm _ _).mem_iff.mp (by rw [List.getD_eq_getElem?_getD, List.getElem?_eq_getElem hi]; exact List.getElem_mem hi))
  by_cases h1 : r = "most"
  · rw [if_pos h1] at h; cases h; exact key _ (by omega)
  rw [if_neg h1] at h
  by_cases h2 : r = "least"
  · rw [if_pos h2] at h; cases h; exact key _ (by omega)
  rw [if_neg h2] at h
  cases h
  exact key _ (by omega)
theorem CInv.read {c : Ctr} (h : CInv c) {n : Int} (hn : readC c = some n) : 0 ≤ n ∧ n ≤ c.top := h.cells n (readAs_mem hn)
theorem calm_read {c : Ctr} (h : faultC c = "") : ∃ n, readC c = some n ∧ c.told ≤ n ∧ n ≤ c.begun := by
  unfold faultC at h
  cases hn : readC c with
  | none => rw [hn] at h; exact absurd (show (("lost" : Str) = "") from h) (by decide +kernel)
  | some n =>
    rw [hn] at h
    have h : (if n < c.told then ("back" : Str) else if c.begun < n then "ahead" else "") = "" := h
    by_cases h1 : n < c.told
    · rw [if_pos h1] at h; exact absurd h (by decide +kernel)
    rw [if_neg h1] at h
    by_cases h2 : c.begun < n
    · rw [if_pos h2] at h; exact absurd h (by decide +kernel)
    exact ⟨n, rfl, by omega, by omega⟩
theorem writes_worth {s : Setup} {top n : Int} (h : n ≤ top) : ∀ x ∈ writesOf s top n, n ≤ x.2.1 ∧ x.2.1 ≤ top := by
  intro x hx
  unfold writesOf at hx
  rcases List.mem_append.mp hx with hx | hx
  · obtain ⟨c, hc, rfl⟩ := List.mem_map.mp hx
    exact ⟨Int.le_refl _, h⟩
  · obtain ⟨l, hl, hx⟩ := List.mem_flatten.mp hx
    obtain ⟨j, hj, rfl⟩ := List.mem_map.mp hl
    have hj := List.mem_range.mp hj
    unfold rowW at hx
    obtain ⟨k, hk, rfl⟩ := List.mem_map.mp hx
    exact ⟨by show n ≤ n + 1 + (j : Int); omega, by show n + 1 + (j : Int) ≤ top; omega⟩
theorem mem_set {α : Type} {l : List α} {i : Nat} {a x : α} (h : x ∈ l.set i a) : x ∈ l ∨ x = a := List.mem_or_eq_of_mem_set h
theorem stepC_inv {c : Ctr} (h : CInv c) {x : Wr} (hw : 0 ≤ x.2.1 ∧ x.2.1 ≤ c.top) : CInv (stepC c x) := by
  obtain ⟨k1, k2, k3⟩ := stepC_keeps c x
  refine ⟨⟨by rw [k1]; exact h.ok.v, by rw [k1, k3]; exact h.ok.len, by rw [k2]; exact h.ok.top⟩, by rw [k2]; exact h.top, fun v hv => ?_⟩
  rw [k2]
  rcases mem_set hv with hv | hv
  · exact h.cells v hv
  · cases hv; exact hw
theorem foldC_inv : ∀ {xs : List Wr} {c : Ctr}, CInv c → (∀ x ∈ xs, 0 ≤ x.2.1 ∧ x.2.1 ≤ c.top) → CInv (xs.foldl stepC c)
  | [], _, h, _ => h
  | x :: xs, c, h, hw => by
    rw [List.foldl_cons]
    refine foldC_inv (stepC_inv h (hw x List.mem_cons_self)) fun y hy => ?_
    rw [(stepC_keeps c x).2.1]
    exact hw y (List.mem_cons_of_mem _ hy)
theorem next_inv {c : Ctr} (h : CInv c) {x : Strch} (m : May c x) : CInv (next c x) := by
  obtain ⟨n, hn, _, _⟩ := calm_read m.calm
  have hb := h.read hn
  have hg : (readC c).getD 0 = n := by rw [hn] <;> rfl
  have hw := writes_worth (s := c.s) hb.2
  have hf : CInv (((writesOf c.s c.top n).take x.1.toNat).foldl stepC { c with told := n }) := foldC_inv ⟨⟨h.ok.v, h.ok.len, h.ok.top⟩, h.top, h.cells⟩ fun y hy => by
    have := hw y (List.mem_of_mem_take hy)
    exact ⟨by omega, this.2⟩
  unfold next powerC
  rw [hg]
  obtain ⟨k1, k2, k3⟩ := foldC_keeps ((writesOf c.s c.top n).take x.1.toNat) { c with told := n }
  cases ht : x.2 with
  | none => exact hf
  | some t =>
    obtain ⟨t1, t2⟩ := m.torn t ht
    unfold tornC tearC
    refine ⟨⟨hf.ok.v, by show ((List.set _ _ _).length : Int) = _; rw [List.length_set]; exact hf.ok.len, hf.ok.top⟩, hf.top, fun v hv => ?_⟩
    rcases mem_set hv with hv | hv
    · exact hf.cells v hv
    · by_cases h1 : t = -1
      · rw [if_pos h1] at hv; cases hv
      · rw [if_neg h1] at hv
        cases hv
        unfold isTorn at t2
        show 0 ≤ t ∧ t ≤ (List.foldl stepC { c with told := n } _).top
        rw [k2]
        show 0 ≤ t ∧ t ≤ c.top
        by_cases h2 : c.s.kind = "checked"
        · rw [if_pos h2] at t2; exact absurd (of_decide_eq_true t2) h1
        · rw [if_neg h2] at t2
          simpa using t2
theorem init_inv {s : Setup} (v : Valid s) {t : Int} (ht : 1 ≤ t ∧ t ≤ 10) : CInv (initC s t) := by
  refine ⟨⟨v, ?_, by show -1000 ≤ t ∧ t ≤ 1000; omega⟩, ht, fun x hx => ?_⟩
  · show ((List.replicate s.copies.toNat (some (0 : Int))).length : Int) = s.copies
    rw [List.length_replicate]
    have := v.copies
    omega
  · have := List.eq_of_mem_replicate hx
    cases this
    exact ⟨Int.le_refl _, by show (0 : Int) ≤ t; omega⟩
theorem next_keeps (c : Ctr) (x : Strch) : (next c x).s = c.s ∧ (next c x).top = c.top := ⟨(powerC_keeps c _ _ _).1, (powerC_keeps c _ _ _).2.1⟩
theorem folds_inv : ∀ {xs : List Strch} {c : Ctr}, CInv c → Comes c xs → CInv (xs.foldl next c)
  | [], _, h, _ => h
  | x :: xs, c, h, hc => by
    rw [List.foldl_cons]
    exact folds_inv (next_inv h hc.1) hc.2
theorem comes_take : ∀ {xs : List Strch} {c : Ctr} (i : Nat), Comes c xs → Comes c (xs.take i)
  | [], _, i, h => by rw [List.take_nil]; trivial
  | x :: xs, c, 0, h => trivial
  | x :: xs, c, i + 1, h => ⟨h.1, comes_take i h.2⟩
theorem folds_keeps : ∀ (xs : List Strch) (c : Ctr), (xs.foldl next c).s = c.s ∧ (xs.foldl next c).top = c.top
  | [], c => ⟨rfl, rfl⟩
  | x :: xs, c => by
    rw [List.foldl_cons]
    obtain ⟨h1, h2⟩ := folds_keeps xs (next c x)
    obtain ⟨g1, g2⟩ := next_keeps c x
    exact ⟨h1.trans g1, h2.trans g2⟩

theorem fold_take {α β : Type} (f : β → α → β) {b : β} {l : List α} {i : Nat} {x : α} (h : l[i]? = some x) : (l.take (i + 1)).foldl f b = f ((l.take i).foldl f b) x := by
  rw [List.take_add_one, h, List.foldl_append] <;> rfl
def stD (c : Ctr) : D := .tup [.tup (c.cells.map cellD), .int c.told, .int c.begun]
theorem copies_ok {s : Setup} (v : Valid s) : 0 ≤ s.copies ∧ s.copies ≤ 1000 := by have := v.copies; omega
/-! ### is_torn -/
def SIsTorn : DA := fun ds M P => ∃ (s : Setup) (top t : Int), ds = [setupD s, .int top, .int t] ∧ P (.bl (isTorn s.kind top t)) M
theorem monoIsTorn : DMono SIsTorn := fun ds M P P' h ⟨s, top, t, e, k⟩ => ⟨s, top, t, e, h _ _ k⟩
theorem lenIsTorn : DLen SIsTorn 3 := fun ds M P ⟨s, top, t, e, k⟩ => by rw [e] <;> rfl
theorem sc_istorn : FnScope ["setup", "top", "torn"] ["setup", "top", "torn"] (defScope s_is_torn) := ⟨rfl, rfl, rfl, by decide +kernel, rfl, by decide +kernel, by decide +kernel⟩
theorem ok_istorn {P : Program} {w : World} {K : PySem.W.Frag} {mg : Str → Option Value} {base : Heap} {f : Addr} {fd : FuncData} (F : Fun K "is_torn" "is_torn" s_is_torn f fd) (hm : mg "is_torn" = some (.ref f)) (hb : Binds K fd ["setup", "top", "torn"] []) (hB : KI mg "BROKEN" (-1)) : Gd P w K mg base "is_torn" 1 ["setup", "top", "torn"] SIsTorn := by
  refine ok_def F sc_istorn hm hb monoIsTorn lenIsTorn ?_
  rintro X rfl rfl rfl rfl rfl c hr ds M Q ⟨s, top, t, rfl, hq⟩
  have hu := hr.units
  show SM X _ [some (setupD s), some (.int top), some (.int t)] _ _
  refine SM.last (S1.ret (EM.ife (TM.eq hu (EM.ix ix_seq dIx ?_))))
  walk_at "es"
  refine ⟨_, rfl, ?_⟩
  walk_at "es"
  refine ⟨_, rfl, ?_⟩
  unfold isTorn at hq
  by_cases h : s.kind = "checked"
  · rw [if_pos h] at hq
    refine ifT (decide_eq_true h) ?_
    walk_at "es"
    exact EM.gint c hB hq
  · rw [if_neg h] at hq
    refine ifF (decide_eq_false h) (EM.chLeLe ?_)
    walk_at "es"
    refine ⟨trivial, _, rfl, ?_⟩
    by_cases h1 : 0 ≤ t
    · rw [decide_eq_true h1, Bool.true_and] at hq
      refine ifT (decide_eq_true h1) ?_
      walk_at "e"
      exact ⟨trivial, hq⟩
    · rw [decide_eq_false h1, Bool.false_and] at hq
      exact ifF (decide_eq_false h1) hq
/-! ### need_stretches, run -/
def SNeedStr : DA := fun ds M P => ∃ (s : Setup) (t : Int) (xs : List Strch), ds = [setupD s, .int t, .lst (xs.map strD)] ∧ Valid s ∧ (1 ≤ t ∧ t ≤ 10) ∧ Comes (initC s t) xs ∧ xs.length ≤ 40 ∧ P .non M
theorem monoNeedStr : DMono SNeedStr := fun ds M P P' h ⟨s, t, xs, e, v, b, k, l, p⟩ => ⟨s, t, xs, e, v, b, k, l, h _ _ p⟩
theorem lenNeedStr : DLen SNeedStr 3 := fun ds M P ⟨s, t, xs, e, v, b, k, l, p⟩ => by rw [e] <;> rfl
abbrev nNeedStr : List Str := ["setup", "top", "stretches", "counter", "number", "many", "torn", "rows"]
theorem sc_needstr : FnScope nNeedStr ["setup", "top", "stretches"] (defScope s_need_stretches) := ⟨rfl, rfl, rfl, by decide +kernel, rfl, by decide +kernel, by decide +kernel⟩
section
variable {P : Program} {w : World} {K : PySem.W.Frag} {mg : Str → Option Value} {base : Heap} {f C : Addr} {fd : FuncData}
theorem ok_needstr (F : Fun K "need_stretches" "need_stretches" s_need_stretches f fd) (hm : mg "need_stretches" = some (.ref f)) (hb : Binds K fd ["setup", "top", "stretches"] []) (T : Bn mg) (hMS : KI mg "MOST_STRETCHES" 40) (Cc0 : Cc K C)
    (Gc : Gk P w K mg base "Counter" C 1 ["self", "setup", "top"] (SInit C)) (Gf : Gm P w K mg base C "fault" 3 ["self"] (SFault C)) (Gr : Gm P w K mg base C "read" 2 ["self"] (SRead C)) (Gw : Gm P w K mg base C "writes" 2 ["self", "number"] (SWrites C)) (Gt : Gd P w K mg base "is_torn" 1 ["setup", "top", "torn"] SIsTorn) (Gp : Gm P w K mg base C "power" 3 ["self", "many", "torn"] (SPower C)) : Gd P w K mg base "need_stretches" 4 ["setup", "top", "stretches"] SNeedStr := by
  refine ok_def F sc_needstr hm hb monoNeedStr lenNeedStr ?_
  rintro X rfl rfl rfl rfl rfl c hr ds M Q ⟨s, t, xs, rfl, v, b, hc, hl, hq⟩
  have hu := hr.units
  show SM X _ [some (setupD s), some (.int t), some (.lst (xs.map strD)), none, none, none, none, none] M _
  refine SM.seq (S1.set c (EM.make c hr Gc ?_))
  walk_at "es"
  refine fun p => ⟨p, s, t, rfl, rfl, copies_ok v, fun q => ⟨rfl, _, by walk_at "put", ?_⟩⟩
  refine SM.seq (S1.forr c (i_range1 c T ?_))
  walk_at "c"; walk_at "e"
  rw [List.length_map]
  refine ⟨_, rfl, ⟨by omega, by omega⟩, fun i ρ' M' => M' = ctrM p q C ((xs.take i).foldl next (initC s t)) ++ M ∧ ∃ x y z u, ρ' = [some (setupD s), some (.int t), some (.lst (xs.map strD)), some (.raw (.ref p)), x, y, z, u], ⟨rfl, _, _, _, _, rfl⟩, ?_, ?_⟩
  · rintro i d ρ' M' hi ⟨rfl, x0, y0, z0, u0, rfl⟩
    have hil : i < xs.length := by
      have := (List.getElem?_eq_some_iff.mp hi).1
      rw [rngD_length] at this
      omega
    rw [rngD_get (by omega)] at hi
    cases hi
    obtain ⟨x, hx⟩ : ∃ x, xs[i]? = some x := ⟨xs[i], List.getElem?_eq_getElem hil⟩
    have m := hc.take hx
    have inv := folds_inv (init_inv v b) (comes_take i hc)
    obtain ⟨k1, k2⟩ := folds_keeps (xs.take i) (initC s t)
    have e2 := fold_take next (b := initC s t) hx
    generalize (xs.take i).foldl next (initC s t) = ci at m inv k1 k2 e2
    obtain ⟨n, hn, _, _⟩ := calm_read m.calm
    have hnb := inv.read hn
    have hct := inv.top
    have hrow : (rowsAt ci) = writesOf ci.s ci.top n := by unfold rowsAt; rw [hn] <;> rfl
    have hlo := m.lo
    have hhi := m.hi
    have htn := m.torn
    rw [hrow] at hhi htn
    refine ⟨_, _, GM.name c (by walk_at "put"), ?_⟩
    refine SM.seq (S1.asg c ?_)
    walk_at "es"
    refine ⟨strD x, atI_is i (by omega) (by rw [List.getElem?_map, hx] <;> rfl), _, _, GM.tup c (GMs.cons (GM.name c (by walk_at "put")) (GMs.cons (GM.name c (by walk_at "put")) GMs.nil)), ?_⟩
    refine SM.seq (S1.ife (TM.w (WM.or (TM.ge ?_))))
    walk_at "e"
    refine EM.gint c hMS ⟨trivial, _, rfl, ifF (decide_eq_false (by omega)) (WM.or1 (TM.ne hu (EM.meth0 hr Gf ?_)))⟩
    walk_at "e"
    refine ⟨p, 0, _, rfl, rfl, cfs_no (not_own (by decide +kernel)), ctrM p q C ci, M, rfl, p, q, ci, rfl, rfl, inv.ok.few, ?_⟩
    walk_at "es"
    rw [m.calm]
    refine ⟨_, rfl, ifF rfl (SM.nil ?_)⟩
    refine SM.seq (S1.set c (EM.meth hr Gw ?_))
    walk_at "e"
    refine ⟨p, 0, _, rfl, rfl, cfs_no (not_own (by decide +kernel)), AM.cons (EM.meth0 hr Gr ?_)⟩
    walk_at "e"
    refine ⟨p, 0, _, rfl, rfl, cfs_no (not_own (by decide +kernel)), ctrM p q C ci, M, rfl, p, q, ci, rfl, rfl, inv.ok.few, ?_⟩
    rw [hn]
    refine AM.nil ⟨ctrM p q C ci, M, rfl, p, q, ci, n, rfl, rfl, inv.ok.v, by omega, by omega, by omega, _, by walk_at "put", ?_⟩
    show SM X _ [some (setupD s), some (.int t), some (.lst (xs.map strD)), some (.raw (.ref p)), some (.int ((0 : Int) + (i : Nat))), some (.int x.1), some (cellD x.2), some (.lst ((writesOf ci.s ci.top n).map wD))] _ _
    have hts : ci.s = s := k1
    have htt : ci.top = t := k2
    -- the last refusal
    refine SM.seq (S1.ife (TM.w (WM.or (TM.not (TM.chLeLe ?_)))))
    walk_at "es"
    refine ⟨trivial, _, rfl, ifT (decide_eq_true hlo) ?_⟩
    walk_at "c"; walk_at "e"
    rw [List.length_map]
    refine ⟨trivial, _, rfl, ifF (by rw [decide_eq_true hhi] <;> rfl) (WM.or1 (TM.w (WM.and (TM.notN ?_))))⟩
    walk_at "es"
    have hne : ctrM p q C (next ci x) = ctrM p q C (powerC ci n x.1.toNat x.2) := by unfold next; rw [hn] <;> rfl
    have hmany : x.1.toNat ≤ (writesOf ci.s ci.top n).length := by omega
    have ha : [D.raw (.ref p), .int x.1, cellD x.2] = [D.raw (.ref p), .int (x.1.toNat : Int), cellD x.2] := by rw [Int.toNat_of_nonneg hlo]
    cases ht : x.2 with
    | none =>
      rw [ht] at ha hne
      refine ⟨_, rfl, ifF rfl (ifF rfl (SM.nil ?_))⟩
      refine SM.last (S1.expr (EM.meth hr Gp ?_))
      walk_at "e"
      refine ⟨p, 0, _, rfl, rfl, cfs_no (not_own (by decide +kernel)), ?_⟩
      walk_at "es"
      refine ⟨ctrM p q C ci, M, rfl, p, q, ci, n, x.1.toNat, none, ha, rfl, inv.ok, hn, by omega, by omega, hmany, (fun h => by cases h), ?_⟩
      rw [e2, hne]
      exact ⟨rfl, _, _, _, _, rfl⟩
    | some z =>
      rw [ht] at ha hne
      obtain ⟨h1, h2⟩ := htn z ht
      rw [hts, htt] at h2
      refine ⟨_, rfl, ifT rfl (WM.and1 (TM.w (WM.or (TM.eq hu ?_))))⟩
      walk_at "e"; walk_at "c"; walk_at "e"
      rw [List.length_map]
      refine ⟨_, rfl, ifF (decide_eq_false (by omega)) (WM.or1 (TM.not (TM.val (EM.call c hr Gt ?_))))⟩
      walk_at "es"
      refine ⟨s, t, z, rfl, _, rfl, ?_⟩
      rw [h2]
      refine ifF rfl (SM.nil ?_)
      refine SM.last (S1.expr (EM.meth hr Gp ?_))
      walk_at "e"
      refine ⟨p, 0, _, rfl, rfl, cfs_no (not_own (by decide +kernel)), ?_⟩
      walk_at "es"
      refine ⟨ctrM p q C ci, M, rfl, p, q, ci, n, x.1.toNat, some z, ha, rfl, inv.ok, hn, by omega, by omega, hmany, (fun _ => by omega), ?_⟩
      rw [e2, hne]
      exact ⟨rfl, _, _, _, _, rfl⟩
  · rintro ρ' M' ⟨rfl, x0, y0, z0, u0, rfl⟩
    exact SM.drop (SM.drop (SM.nil hq))
/-- what is read at the begins -/
def readsOf : Ctr → List Strch → List Int
  | _, [] => []
  | c, x :: xs => (readC c).getD 0 :: readsOf (next c x) xs
theorem readsOf_take {l : List Strch} {i : Nat} {x : Strch} : ∀ {c : Ctr}, l[i]? = some x → readsOf c (l.take (i + 1)) = readsOf c (l.take i) ++ [(readC ((l.take i).foldl next c)).getD 0] := by
  induction l generalizing i with
  | nil => intro c h; simp at h
  | cons y l ih =>
    intro c h
    cases i with
    | zero =>
      have e : y = x := by simpa using h
      subst e
      rfl
    | succ i =>
      rw [List.take_succ_cons, List.take_succ_cons, List.foldl_cons]
      show _ :: readsOf _ _ = (_ :: readsOf _ _) ++ _
      rw [ih (by simpa using h)] <;> rfl
theorem readsOf_length : ∀ (xs : List Strch) (c : Ctr), (readsOf c xs).length = xs.length
  | [], _ => rfl
  | x :: xs, c => by show (readsOf _ xs).length + 1 = xs.length + 1; rw [readsOf_length xs]
/-- what run answers -/
def runD (a : Addr) (c : Ctr) : D := .tup [.raw (.ref a), .tup (c.cells.map cellD), .int c.told, .int c.begun, .str (faultC c)]
def SRun : DA := fun ds M P => ∃ (s : Setup) (t : Int) (xs : List Strch), ds = [setupD s, .int t, .lst (xs.map strD)] ∧ Valid s ∧ (1 ≤ t ∧ t ≤ 4) ∧ Comes (initC s t) xs ∧ xs.length ≤ 40 ∧ ∀ a, P (runD a (xs.foldl next (initC s t))) ((a, .lst ((readsOf (initC s t) xs).map D.int)) :: M)
theorem monoRun : DMono SRun := fun ds M P P' h ⟨s, t, xs, e, v, b, k, l, p⟩ => ⟨s, t, xs, e, v, b, k, l, fun a => h _ _ (p a)⟩
theorem lenRun : DLen SRun 3 := fun ds M P ⟨s, t, xs, e, v, b, k, l, p⟩ => by rw [e] <;> rfl
abbrev nRun : List Str := ["setup", "top", "stretches", "counter", "found", "many", "torn"]
theorem sc_run : FnScope nRun ["setup", "top", "stretches"] (defScope s_run) := ⟨rfl, rfl, rfl, by decide +kernel, rfl, by decide +kernel, by decide +kernel⟩
theorem ok_run (F : Fun K "run" "run" s_run f fd) (hm : mg "run" = some (.ref f)) (hb : Binds K fd ["setup", "top", "stretches"] []) (T : Bn mg) (Cc0 : Cc K C)
    (Gs : Gd P w K mg base "need_setup" 2 ["setup"] SNeedSetup) (Gt : Gd P w K mg base "need_top" 1 ["top"] SNeedTop) (Gn : Gd P w K mg base "need_stretches" 4 ["setup", "top", "stretches"] SNeedStr)
    (Gc : Gk P w K mg base "Counter" C 1 ["self", "setup", "top"] (SInit C)) (Gf : Gm P w K mg base C "fault" 3 ["self"] (SFault C)) (Gp : Gm P w K mg base C "power" 3 ["self", "many", "torn"] (SPower C)) : Gd P w K mg base "run" 5 ["setup", "top", "stretches"] SRun := by
  refine ok_def F sc_run hm hb monoRun lenRun ?_
  rintro X rfl rfl rfl rfl rfl c hr ds M Q ⟨s, t, xs, rfl, v, b, hc, hl, hq⟩
  have hu := hr.units
  show SM X _ [some (setupD s), some (.int t), some (.lst (xs.map strD)), none, none, none, none] M _
  refine SM.seq (S1.expr (EM.call c hr Gs ?_))
  walk_at "es"
  refine ⟨s, rfl, v, ?_⟩
  refine SM.seq (S1.expr (EM.call c hr Gt ?_))
  walk_at "es"
  refine ⟨t, rfl, b, ?_⟩
  refine SM.seq (S1.expr (EM.call c hr Gn ?_))
  walk_at "es"
  refine ⟨s, t, xs, rfl, v, by omega, hc, hl, ?_⟩
  refine SM.seq (S1.set c (EM.make c hr Gc ?_))
  walk_at "es"
  refine fun p => ⟨p, s, t, rfl, rfl, copies_ok v, fun q => ⟨rfl, _, by walk_at "put", ?_⟩⟩
  refine SM.seq (S1.setLc c ["many", "torn"] (by walk_at "wp") (IW.list ?_))
  walk_at "e"
  refine ⟨_, rfl, ?_, fun i acc M' => M' = ctrM p q C ((xs.take i).foldl next (initC s t)) ++ M ∧ acc = (readsOf (initC s t) (xs.take i)).map D.int, ⟨rfl, rfl⟩, ?_, ?_⟩
  · rw [List.length_map]; exact Nat.le_trans hl (by decide)
  · rintro i d acc M' hi ⟨rfl, rfl⟩
    obtain ⟨x, hx, rfl⟩ := get_map hi
    have m := hc.take hx
    have inv := folds_inv (init_inv v (by omega)) (comes_take i hc)
    have e2 := fold_take next (b := initC s t) hx
    have e3 := readsOf_take (c := initC s t) hx
    generalize (xs.take i).foldl next (initC s t) = ci at m inv e2 e3
    obtain ⟨n, hn, _, _⟩ := calm_read m.calm
    have hnb := inv.read hn
    have hct := inv.top
    have hrow : (rowsAt ci) = writesOf ci.s ci.top n := by unfold rowsAt; rw [hn] <;> rfl
    have hlo := m.lo
    have hhi := m.hi
    have htn := m.torn
    rw [hrow] at hhi htn
    refine ⟨_, ["many", "torn"], fun _ h => h, fun s1 H0 C1 cl fp => GM.tup (c.blk rfl) (GMs.cons (GM.name (c.blk rfl) (by walk_at "put")) (GMs.cons (GM.name (c.blk rfl) (by walk_at "put")) GMs.nil)), ?_⟩
    dsimp only [T0]
    rw [if_pos rfl]
    intro s1 H0 C1 cl fp
    refine EM.meth (X := Bk X _ s1 H0 C1 cl fp) hr Gp ?_
    walk_at "e"
    refine ⟨p, 0, _, rfl, rfl, cfs_no (not_own (by decide +kernel)), ?_⟩
    walk_at "es"
    refine ⟨ctrM p q C ci, M, rfl, p, q, ci, n, x.1.toNat, x.2, by rw [Int.toNat_of_nonneg hlo], rfl, inv.ok, hn, by omega, by omega, by omega, fun h => ?_, ?_⟩
    · cases ht : x.2 with
      | none => rw [ht] at h; cases h
      | some z => have := (htn z ht).1; omega
    · rw [e2, e3, hn]
      refine ⟨?_, ?_⟩
      · unfold next; rw [hn] <;> rfl
      · rw [List.map_append] <;> rfl
  · rintro acc M' a ⟨rfl, rfl⟩
    rw [List.length_map, List.take_length]
    have inv := folds_inv (init_inv v (by omega)) hc
    have hq := hq a
    generalize xs.foldl next (initC s t) = ci at inv hq
    refine ⟨_, by walk_at "put", SM.last (S1.ret ?_)⟩
    refine EM.less (EM.tup (AM.cons ?_))
    walk_at "e"
    refine AM.cons (e_tuple c T (EM.fld ?_))
    walk_at "e"
    refine ⟨p, 1, C, _, _, rfl, rfl, Cc0.cl, Cc0.nC, cfs_cells q ci, 2, _, rfl, AM.cons (EM.fld ?_)⟩
    walk_at "e"
    refine ⟨p, 1, C, _, _, rfl, rfl, Cc0.cl, Cc0.nO, cfs_told q ci, AM.cons (EM.fld ?_)⟩
    walk_at "e"
    refine ⟨p, 1, C, _, _, rfl, rfl, Cc0.cl, Cc0.nB, cfs_begun q ci, AM.cons (EM.perm (M' := ctrM p q C ci ++ ((a, MO.lst ((readsOf (initC s t) xs).map D.int)) :: M)) (EM.meth0 hr Gf ?_) List.perm_middle)⟩
    walk_at "e"
    refine ⟨p, 0, _, rfl, rfl, cfs_no (not_own (by decide +kernel)), ctrM p q C ci, _, rfl, p, q, ci, rfl, rfl, inv.ok.few, ?_⟩
    refine AM.nil ⟨by show 5 ≤ sizeLine; decide, _, .cons _ (.cons _ (List.Sublist.refl _)), hq⟩
end
/-! ### counter_at, state_of, ways_on, cost -/
def SAt (C : Addr) : DA := fun ds M P => ∃ c : Ctr, ds = [setupD c.s, .int c.top, stD c] ∧ (0 ≤ c.s.copies ∧ c.s.copies ≤ 1000) ∧ ∀ p q, P (.raw (.ref p)) (ctrM p q C c ++ M)
theorem monoAt (C : Addr) : DMono (SAt C) := fun ds M P P' h ⟨c, e, b, k⟩ => ⟨c, e, b, fun p q => h _ _ (k p q)⟩
theorem lenAt (C : Addr) : DLen (SAt C) 3 := fun ds M P ⟨c, e, b, k⟩ => by rw [e] <;> rfl
theorem sc_at : FnScope ["setup", "top", "state", "found"] ["setup", "top", "state"] (defScope s_counter_at) := ⟨rfl, rfl, rfl, by decide +kernel, rfl, by decide +kernel, by decide +kernel⟩
def SStateOf (C : Addr) : DA := fun ds M P => ∃ (p q : Addr) (c : Ctr), ds = [.raw (.ref p)] ∧ M = ctrM p q C c ∧ P (stD c) M
theorem monoStateOf (C : Addr) : DMono (SStateOf C) := fun ds M P P' h ⟨p, q, c, e1, e2, k⟩ => ⟨p, q, c, e1, e2, h _ _ k⟩
theorem lenStateOf (C : Addr) : DLen (SStateOf C) 1 := fun ds M P ⟨p, q, c, e1, e2, k⟩ => by rw [e1] <;> rfl
theorem sc_stateof : FnScope ["counter"] ["counter"] (defScope s_state_of) := ⟨rfl, rfl, rfl, by decide +kernel, rfl, by decide +kernel, by decide +kernel⟩
def tornsOf (c : Ctr) : List Int := if c.s.kind = "checked" then [-1] else (List.range (c.top + 1).toNat).map fun k : Nat => ((k : Nat) : Int)
def waysAt (c : Ctr) (many w : Nat) : List Strch := ((w : Int), none) :: if w < many then (tornsOf c).map fun t => ((w : Int), some t) else []
def waysOf (c : Ctr) : List Strch := ((List.range ((rowsAt c).length + 1)).map (waysAt c (rowsAt c).length)).flatten
theorem tornsOf_mem {c : Ctr} (h : 0 ≤ c.top) (t : Int) : t ∈ tornsOf c ↔ isTorn c.s.kind c.top t = true := by
  unfold tornsOf isTorn
  by_cases h1 : c.s.kind = "checked"
  · rw [if_pos h1, if_pos h1]
    simp
  · rw [if_neg h1, if_neg h1]
    simp only [List.mem_map, List.mem_range, Bool.and_eq_true, decide_eq_true_eq]
    constructor
    · rintro ⟨k, hk, rfl⟩
      omega
    · rintro ⟨h2, h3⟩
      exact ⟨t.toNat, by omega, by omega⟩
theorem waysOf_mem {c : Ctr} (h : 0 ≤ c.top) (hc : faultC c = "") (x : Strch) : x ∈ waysOf c ↔ May c x := by
  unfold waysOf
  constructor
  · intro hx
    obtain ⟨l, hl, hx⟩ := List.mem_flatten.mp hx
    obtain ⟨w, hw, rfl⟩ := List.mem_map.mp hl
    have hw := List.mem_range.mp hw
    unfold waysAt at hx
    rcases List.mem_cons.mp hx with rfl | hx
    · exact ⟨hc, by show (0 : Int) ≤ (w : Int); omega, by show (w : Int) ≤ _; omega, fun t e => by cases e⟩
    · split at hx
      · rename_i hlt
        obtain ⟨t, ht, rfl⟩ := List.mem_map.mp hx
        refine ⟨hc, by show (0 : Int) ≤ (w : Int); omega, by show (w : Int) ≤ _; omega, fun t' e => ?_⟩
        cases e
        exact ⟨by show (w : Int) < _; omega, (tornsOf_mem h _).mp ht⟩
      · cases hx
  · intro m
    have h1 := m.lo
    have h2 := m.hi
    refine List.mem_flatten.mpr ⟨_, List.mem_map.mpr ⟨x.1.toNat, List.mem_range.mpr (by omega), rfl⟩, ?_⟩
    obtain ⟨a, b⟩ := x
    have e : ((a.toNat : Nat) : Int) = a := Int.toNat_of_nonneg h1
    unfold waysAt
    cases b with
    | none => rw [e]; exact List.mem_cons_self
    | some t =>
      obtain ⟨h3, h4⟩ := m.torn t rfl
      refine List.mem_cons_of_mem _ ?_
      rw [if_pos (by have h3 : a < _ := h3; show a.toNat < _; omega), e]
      exact List.mem_map.mpr ⟨t, (tornsOf_mem h t).mpr h4, rfl⟩
def SWays : DA := fun ds M P => ∃ c : Ctr, ds = [setupD c.s, .int c.top, stD c] ∧ CInv c ∧ faultC c = "" ∧ P (.lst ((waysOf c).map strD)) M
theorem monoWays : DMono SWays := fun ds M P P' h ⟨c, e, i, f, k⟩ => ⟨c, e, i, f, h _ _ k⟩
theorem lenWays : DLen SWays 3 := fun ds M P ⟨c, e, i, f, k⟩ => by rw [e] <;> rfl
abbrev nWays : List Str := ["setup", "top", "state", "rows", "many", "torns", "found", "writes", "torn"]
theorem sc_ways : FnScope nWays ["setup", "top", "state"] (defScope s_ways_on) := ⟨rfl, rfl, rfl, by decide +kernel, rfl, by decide +kernel, by decide +kernel⟩
def costOf (s : Setup) : Int := ((List.range 6).map fun k : Nat => ((rowFor s (1 + (k : Int))).length : Int)).sum
def SCost : DA := fun ds M P => ∃ s : Setup, ds = [setupD s] ∧ Valid s ∧ P (.int (costOf s)) M
theorem monoCost : DMono SCost := fun ds M P P' h ⟨s, e, v, k⟩ => ⟨s, e, v, h _ _ k⟩
theorem lenCost : DLen SCost 1 := fun ds M P ⟨s, e, v, k⟩ => by rw [e] <;> rfl
theorem sc_cost : FnScope ["setup", "number"] ["setup"] (defScope s_cost) := ⟨rfl, rfl, rfl, by decide +kernel, rfl, by decide +kernel, by decide +kernel⟩
section
variable {P : Program} {w : World} {K : PySem.W.Frag} {mg : Str → Option Value} {base : Heap} {f C : Addr} {fd : FuncData}
theorem ok_at (F : Fun K "counter_at" "counter_at" s_counter_at f fd) (hm : mg "counter_at" = some (.ref f)) (hb : Binds K fd ["setup", "top", "state"] []) (T : Bn mg) (Cc0 : Cc K C) (Gc : Gk P w K mg base "Counter" C 1 ["self", "setup", "top"] (SInit C)) : Gd P w K mg base "counter_at" 3 ["setup", "top", "state"] (SAt C) := by
  refine ok_def F sc_at hm hb (monoAt C) (lenAt C) ?_
  rintro X rfl rfl rfl rfl rfl c hr ds M Q ⟨r, rfl, b, hq⟩
  show SM X _ [some (setupD r.s), some (.int r.top), some (stD r), none] M _
  refine SM.seq (S1.set c (EM.make c hr Gc ?_))
  walk_at "es"
  refine fun p => ⟨p, r.s, r.top, rfl, rfl, b, fun q => ⟨rfl, _, by walk_at "put", ?_⟩⟩
  refine SM.seq (S1.asgX (EM.tup (AM.cons (e_listM c T ?_))) rfl (by
    unfold swappedStores
    dsimp only
    split
    · rfl
    · rfl))
  walk_at "es"
  refine ⟨_, rfl, fun q2 => ?_⟩
  walk_at "es"
  refine ⟨_, rfl, ?_⟩
  walk_at "es"
  refine ⟨_, rfl, ?_⟩
  walk_at "es"
  refine ⟨by show 3 ≤ sizeLine; decide, GX.tup c (GXs.cons (GX.fld ?_))⟩
  -- the rest
  walk_at "e"
  refine ⟨p, 1, C, _, rfl, rfl, Cc0.cl, Cc0.nC, by show 5 < 1000; decide, GXs.cons (GX.fld ?_)⟩
  walk_at "e"
  refine ⟨p, 1, C, _, rfl, rfl, Cc0.cl, Cc0.nO, by show 5 < 1000; decide, GXs.cons (GX.fld ?_)⟩
  walk_at "e"
  refine ⟨p, 1, C, _, rfl, rfl, Cc0.cl, Cc0.nB, by show 5 < 1000; decide, GXs.nil ?_⟩
  refine SM.swap (SM.last (S1.ret (EM.less ?_)))
  walk_at "e"
  exact ⟨ctrM p q2 C r ++ M, .cons_cons _ (.cons_cons _ (.cons _ (List.Sublist.refl _))), hq p q2⟩
theorem ok_stateof (F : Fun K "state_of" "state_of" s_state_of f fd) (hm : mg "state_of" = some (.ref f)) (hb : Binds K fd ["counter"] []) (T : Bn mg) (Cc0 : Cc K C) : Gd P w K mg base "state_of" 1 ["counter"] (SStateOf C) := by
  refine ok_def F sc_stateof hm hb (monoStateOf C) (lenStateOf C) ?_
  rintro X rfl rfl rfl rfl rfl c hr ds M Q ⟨p, q, r, rfl, rfl, hq⟩
  show SM X _ [some (.raw (.ref p))] _ _
  refine SM.last (S1.ret (EM.tup (AM.cons (e_tuple c T (EM.fld ?_)))))
  walk_at "e"
  refine ⟨p, 0, C, _, _, rfl, rfl, Cc0.cl, Cc0.nC, cfs_cells q r, 1, _, rfl, AM.cons (EM.fld ?_)⟩
  walk_at "e"
  refine ⟨p, 0, C, _, _, rfl, rfl, Cc0.cl, Cc0.nO, cfs_told q r, AM.cons (EM.fld ?_)⟩
  walk_at "e"
  exact ⟨p, 0, C, _, _, rfl, rfl, Cc0.cl, Cc0.nB, cfs_begun q r, AM.nil ⟨by show 3 ≤ sizeLine; decide, hq⟩⟩
theorem ok_cost (F : Fun K "cost" "cost" s_cost f fd) (hm : mg "cost" = some (.ref f)) (hb : Binds K fd ["setup"] []) (T : Bn mg) (h6 : KI mg "SIX" 6) (Gs : Gd P w K mg base "need_setup" 2 ["setup"] SNeedSetup) (Gr : Gd P w K mg base "row_for" 1 ["setup", "number"] SRowFor) : Gd P w K mg base "cost" 3 ["setup"] SCost := by
  refine ok_def F sc_cost hm hb monoCost lenCost ?_
  rintro X rfl rfl rfl rfl rfl c hr ds M Q ⟨s, rfl, v, hq⟩
  show SM X _ [some (setupD s), none] _ _
  refine SM.seq (S1.expr (EM.call c hr Gs ?_))
  walk_at "es"
  refine ⟨s, rfl, v, ?_⟩
  refine SM.last (S1.ret (e_sum c T (EM.lcMap (α := Nat) c (by walk_at "wp") (i_range2 c T (EM.int (EM.add (EM.gint c h6 ?_)))))))
  walk_at "es"
  refine ⟨1, 7, rfl, rfl, by decide, List.range 6, fun k => .int ((1 : Int) + (k : Nat)), fun k => .int ((rowFor s (1 + (k : Int))).length : Int), rfl, by rw [List.length_range]; decide, fun k hk => ⟨_, by walk_at "put", fun s1 H0 C1 cl fp => ?_⟩, ?_⟩
  · refine e_len (by walk_at "cx") T (EM.call (X := Bk X _ s1 H0 C1 cl fp) (by walk_at "cx") hr Gr ?_)
    walk_at "es"
    refine ⟨s, _, rfl, v.turns.1, ?_⟩
    walk_at "d"
    rw [List.length_map]
    exact ⟨rfl, rfl⟩
  · refine ⟨(List.range 6).map fun k : Nat => ((rowFor s (1 + (k : Int))).length : Int), ?_, hq⟩
    rw [List.map_map] <;> rfl
theorem waysAt_len {c : Ctr} (h : c.top ≤ 10) (many w : Nat) : (waysAt c many w).length ≤ 20 := by
  unfold waysAt
  rw [List.length_cons]
  split
  · rw [List.length_map]
    unfold tornsOf
    split
    · show 1 + 1 ≤ 20; decide
    · rw [List.length_map, List.length_range]; omega
  · show 0 + 1 ≤ 20; decide
theorem ok_ways (F : Fun K "ways_on" "ways_on" s_ways_on f fd) (hm : mg "ways_on" = some (.ref f)) (hb : Binds K fd ["setup", "top", "state"] []) (T : Bn mg) (hB : KI mg "BROKEN" (-1)) (Cc0 : Cc K C) (Ga : Gd P w K mg base "counter_at" 3 ["setup", "top", "state"] (SAt C)) (Gr : Gm P w K mg base C "read" 2 ["self"] (SRead C)) (Gw : Gm P w K mg base C "writes" 2 ["self", "number"] (SWrites C)) : Gd P w K mg base "ways_on" 4 ["setup", "top", "state"] SWays := by
  refine ok_def F sc_ways hm hb monoWays lenWays ?_
  rintro X rfl rfl rfl rfl rfl c hr ds M Q ⟨r, rfl, inv, calm, hq⟩
  have hu := hr.units
  obtain ⟨n, hn, _, _⟩ := calm_read calm
  have hnb := inv.read hn
  have hct := inv.top
  have hrow : (rowsAt r) = writesOf r.s r.top n := by unfold rowsAt; rw [hn] <;> rfl
  have hrl : (rowsAt r).length ≤ 10000 := by rw [hrow]; exact writes_le inv.ok.v (Nat.le_refl _) (by omega)
  show SM X _ [some (setupD r.s), some (.int r.top), some (stD r), none, none, none, none, none, none] _ _
  refine SM.seq (S1.set c (EM.callF c hr Ga ?_))
  walk_at "es"
  refine ⟨[], M, rfl, r, rfl, copies_ok inv.ok.v, fun p q => ⟨_, by walk_at "put", ?_⟩⟩
  rw [List.append_nil]
  refine SM.seq (S1.set c (e_len c T (EM.meth hr Gw ?_)))
  walk_at "e"
  refine ⟨p, 0, _, rfl, rfl, cfs_no (not_own (by decide +kernel)), AM.cons (EM.meth0 hr Gr ?_)⟩
  walk_at "e"
  refine ⟨p, 0, _, rfl, rfl, cfs_no (not_own (by decide +kernel)), ctrM p q C r, M, rfl, p, q, r, rfl, rfl, inv.ok.few, ?_⟩
  rw [hn]
  refine AM.nil ⟨ctrM p q C r, M, rfl, p, q, r, n, rfl, rfl, inv.ok.v, by omega, by omega, by omega, ?_⟩
  walk_at "d"
  rw [List.length_map, ← hrow]
  refine ⟨_, by walk_at "put", ?_⟩
  refine SM.drop (SM.drop ?_)
  have hwo : waysOf r = ((List.range ((rowsAt r).length + 1)).map (waysAt r (rowsAt r).length)).flatten := rfl
  generalize (rowsAt r).length = many at hrl hwo
  -- torns
  refine SM.seq (S1.set c (EM.to (P := fun d M' => d = .lst ((tornsOf r).map D.int) ∧ M' = M) (EM.ife (TM.eq hu (EM.ix ix_seq dIx ?_))) ?_))
  · walk_at "es"
    refine ⟨_, rfl, ?_⟩
    walk_at "es"
    refine ⟨_, rfl, ?_⟩
    unfold tornsOf
    by_cases h1 : r.s.kind = "checked"
    · refine ifT (decide_eq_true h1) (EM.lst (AM.cons (EM.gint c hB (AM.nil ⟨by show 1 ≤ sizeLine; decide, ?_, rfl⟩))))
      rw [if_pos h1] <;> rfl
    · refine ifF (decide_eq_false h1) (EM.lstRg c T.list T.range ?_)
      walk_at "es"
      refine ⟨_, rfl, ⟨by omega, by omega⟩, ?_, rfl⟩
      rw [if_neg h1, rngD_map]
  rintro d M' ⟨rfl, rfl⟩
  refine ⟨_, by walk_at "put", ?_⟩
  refine SM.seq (S1.set c (EM.lstM (AM.nil ⟨by decide, fun a => ⟨_, by walk_at "put", ?_⟩⟩)))
  refine SM.seq (S1.forr c (i_range1 c T ?_))
  walk_at "es"
  refine ⟨_, rfl, ⟨by omega, by omega⟩, fun i ρ' M1 => M1 = (a, MO.lst ((((List.range i).map (waysAt r many)).flatten).map strD)) :: M' ∧ ∃ x, ρ' = [some (setupD r.s), some (.int r.top), some (stD r), some (.raw (.ref p)), some (.int (many : Int)), some (.lst ((tornsOf r).map D.int)), some (.raw (.ref a)), x, none], ⟨rfl, _, rfl⟩, ?_, ?_⟩
  · rintro i d ρ' M1 hi ⟨rfl, x0, rfl⟩
    have hil : i < many + 1 := by
      have := (List.getElem?_eq_some_iff.mp hi).1
      rw [rngD_length] at this
      omega
    rw [rngD_get (by omega)] at hi
    cases hi
    rw [Int.zero_add]
    have hlen := flatten_le (k := 20) (ls := (List.range i).map (waysAt r many)) fun l hl => by
      obtain ⟨j, _, rfl⟩ := List.mem_map.mp hl
      exact waysAt_len hct.2 many j
    rw [List.length_map, List.length_range] at hlen
    have hz : 10000000 ≤ sizeLine := by decide
    have e1 : ((List.range (i + 1)).map (waysAt r many)).flatten = ((List.range i).map (waysAt r many)).flatten ++ waysAt r many i := by
      rw [List.range_succ, List.map_append, List.flatten_append]
      show _ ++ (waysAt r many i ++ []) = _
      rw [List.append_nil]
    simp only [e1]
    generalize ((List.range i).map (waysAt r many)).flatten = pre at hlen
    refine ⟨_, _, GM.name c (by walk_at "put"), ?_⟩
    refine SM.seq (S1.expr (EM.append ?_))
    walk_at "e"
    refine ⟨⟨a, 0, _, rfl, rfl⟩, ?_⟩
    walk_at "es"
    refine ⟨by show 2 ≤ sizeLine; decide, a, 0, _, _, rfl, rfl, rfl, by rw [List.length_map]; omega, ?_⟩
    dsimp only [List.set]
    refine SM.last (S1.ife ?_)
    walk_at "es"
    refine ⟨trivial, _, rfl, ?_⟩
    by_cases h1 : i < many
    · refine ifT (decide_eq_true (by omega)) (SM.last (S1.expr (EM.extend ?_)))
      walk_at "e"
      refine ⟨⟨a, 0, _, rfl, rfl⟩, EM.lcMap (α := Int) c (by walk_at "wp") (IW.list ?_)⟩
      walk_at "e"
      have ht : (tornsOf r).length ≤ 20 := by
        have := waysAt_len hct.2 many i
        unfold waysAt at this
        rw [if_pos h1, List.length_cons, List.length_map] at this
        omega
      refine ⟨_, rfl, tornsOf r, D.int, fun t => strD ((i : Int), some t), rfl, by omega, fun t _ => ⟨_, by walk_at "put", fun s1 H0 C1 cl fp => ?_⟩, ?_⟩
      · walk_at "es"
        exact ⟨by show 2 ≤ sizeLine; decide, rfl, rfl⟩
      · refine ⟨a, 0, _, _, rfl, rfl, rfl, by rw [List.length_append, List.length_map, List.length_map]; show pre.length + 1 + _ ≤ _; omega, ?_, _, rfl⟩
        dsimp only [List.set]
        unfold waysAt
        rw [if_pos h1, List.map_append, List.map_cons, List.map_map, List.append_assoc] <;> rfl
    · refine ifF (decide_eq_false (by omega)) (SM.nil ⟨?_, _, rfl⟩)
      unfold waysAt
      rw [if_neg h1, List.map_append] <;> rfl
  · rintro ρ' M1 ⟨rfl, x0, rfl⟩
    rw [rngD_length, show ((many : Int) + 1).toNat = many + 1 by omega, ← hwo]
    refine SM.freeze (N := nWays) (x := "found") (k := 0) rfl (by walk_at "at") (by walk_at "put") ?_
    refine SM.last (S1.ret ?_)
    walk_at "e"
    exact hq
end
/-! ### the law's own look at a setup -/
section
def SWhy : DA := fun ds M P => ∃ s : Setup, ds = [setupD s] ∧ Short s ∧ P (.str (whyS s)) M
theorem monoWhy : DMono SWhy := fun ds M P P' h ⟨s, e, v, q⟩ => ⟨s, e, v, h _ _ q⟩
theorem lenWhy : DLen SWhy 1 := fun ds M P ⟨s, e, v, q⟩ => by rw [e] <;> rfl
abbrev nWhy : List Str := ["_law_setup_here", "_law_kind", "_law_copies", "_law_reader", "_law_turns", "_law_mends", "_law_row_here", "_law_one"]
theorem sc_why : FnScope nWhy ["_law_setup_here"] (defScope s__law_why) := ⟨rfl, rfl, rfl, by decide +kernel, rfl, by decide +kernel, by decide +kernel⟩
def badOnes (l : List Int) (n : Int) : List Int := l.filter fun x => !(decide (0 ≤ x) && decide (x < n))
theorem areC_def (l : List Int) (n : Int) : areC l n = (decide (l.length ≤ 6) && decide (badOnes l n = [])) := rfl
variable {P : Program} {w : World} {K : PySem.W.Frag} {mg : Str → Option Value} {base : Heap} {f C E : Addr} {fd : FuncData}
theorem ok_why (F : Fun K "_law_why" "_law_why" s__law_why f fd) (hm : mg "_law_why" = some (.ref f)) (hb : Binds K fd ["_law_setup_here"] []) (T : Bn mg) : Gd P w K mg base "_law_why" 1 ["_law_setup_here"] SWhy := by
  refine ok_def F sc_why hm hb monoWhy lenWhy ?_
  rintro X rfl rfl rfl rfl rfl c hr ds M Q ⟨s, rfl, v, hq⟩
  have hu := hr.units
  have hz : 20000 ≤ sizeLine := by decide
  have vt := v.turns
  have vm := v.mends
  have ret : ∀ {z : Str} {ρ1 : Rho} {p1 p2 : Pos} {j : Nat} {O : Out}, O.rt = Q → whyS s = z → SM X [.Return (some (.Constant (.str z) j p1)) p2] ρ1 M O := fun {z ρ1 p1 p2 j O} eO e => SM.last (S1.ret (EM.str (by subst e; rw [eO]; exact hq)))
  show SM X _ [some (setupD s), none, none, none, none, none, none, none] M _
  refine SM.seq (S1.asg c ?_)
  walk_at "e"
  refine ⟨_, _, GM.tup c (GMs.cons (GM.name c (by walk_at "put")) (GMs.cons (GM.name c (by walk_at "put")) (GMs.cons (GM.name c (by walk_at "put")) (GMs.cons (GM.name c (by walk_at "put")) (GMs.cons (GM.name c (by walk_at "put")) GMs.nil))))), ?_⟩
  refine SM.seq (S1.ife (TM.niS ?_))
  walk_at "es"
  refine ⟨by show 2 ≤ sizeLine; omega, s.kind, kinds, rfl, .inl rfl, _, rfl, ?_⟩
  by_cases h1 : s.kind ∈ kinds
  rotate_left
  · exact ifT (by show (!decide (s.kind ∈ kinds)) = true; rw [decide_eq_false h1] <;> rfl) (ret rfl (by unfold whyS; rw [if_pos h1]))
  refine ifF (by show (!decide (s.kind ∈ kinds)) = false; rw [decide_eq_true h1] <;> rfl) (SM.nil ?_)
  refine SM.seq (S1.ife (TM.niI ?_))
  walk_at "es"
  refine ⟨by show 3 ≤ sizeLine; omega, s.copies, [1, 2, 3], rfl, .inl rfl, _, rfl, ?_⟩
  have m3 : ∀ x : Int, x ∈ [(1 : Int), 2, 3] ↔ 1 ≤ x ∧ x ≤ 3 := fun x => by simp only [List.mem_cons, List.not_mem_nil, or_false]; omega
  by_cases h2 : 1 ≤ s.copies ∧ s.copies ≤ 3
  rotate_left
  · exact ifT (by show (!decide (s.copies ∈ [1, 2, 3])) = true; rw [decide_eq_false fun h => h2 ((m3 _).mp h)] <;> rfl) (ret rfl (by unfold whyS; rw [if_neg (fun h => h h1), if_pos h2]))
  refine ifF (by show (!decide (s.copies ∈ [1, 2, 3])) = false; rw [decide_eq_true ((m3 _).mpr h2)] <;> rfl) (SM.nil ?_)
  refine SM.seq (S1.ife (TM.niS ?_))
  walk_at "es"
  refine ⟨by show 3 ≤ sizeLine; omega, s.reader, ["least", "middle", "most"], rfl, .inl rfl, _, rfl, ?_⟩
  have mr : ∀ x : Str, x ∈ (["least", "middle", "most"] : List Str) ↔ x ∈ readers := fun x => by
    unfold readers
    simp only [List.mem_cons, List.not_mem_nil, or_false]
    exact ⟨fun h => by rcases h with h | h | h <;> simp [h], fun h => by rcases h with h | h | h <;> simp [h]⟩
  by_cases h3 : s.reader ∈ readers
  rotate_left
  · exact ifT (by show (!decide (s.reader ∈ (["least", "middle", "most"] : List Str))) = true; rw [decide_eq_false fun h => h3 ((mr _).mp h)] <;> rfl) (ret rfl (by unfold whyS; rw [if_neg (fun h => h h1), if_neg (fun h => h h2), if_pos h3]))
  refine ifF (by show (!decide (s.reader ∈ (["least", "middle", "most"] : List Str))) = false; rw [decide_eq_true ((mr _).mpr h3)] <;> rfl) (SM.nil ?_)
  refine SM.seq (S1.ife (TM.niI (e_len c T ?_)))
  walk_at "es"
  rw [List.length_map]
  walk_at "es"
  refine ⟨by show 3 ≤ sizeLine; omega, (s.turns.length : Int), [1, 2, 3], rfl, .inl rfl, _, rfl, ?_⟩
  by_cases h4 : 1 ≤ s.turns.length ∧ s.turns.length ≤ 3
  rotate_left
  · exact ifT (by show (!decide ((s.turns.length : Int) ∈ [(1 : Int), 2, 3])) = true; rw [decide_eq_false fun h => h4 (by have := (m3 _).mp h; omega)] <;> rfl) (ret rfl (by unfold whyS; rw [if_neg (fun h => h h1), if_neg (fun h => h h2), if_neg (fun h => h h3), if_pos h4]))
  refine ifF (by show (!decide ((s.turns.length : Int) ∈ [(1 : Int), 2, 3])) = false; rw [decide_eq_true ((m3 _).mpr (by omega))] <;> rfl) (SM.nil ?_)
  refine SM.seq (S1.forr c (IW.tup ?_))
  walk_at "e"
  refine ⟨_, rfl, fun i ρ' M' => M = M' ∧ (∀ r ∈ s.turns.take i, (decide (r.length = 0) || !areC r s.copies) = false) ∧ ∃ x, ρ' = [some (setupD s), some (.str s.kind), some (.int s.copies), some (.str s.reader), some (.tup (s.turns.map rowD)), some (rowD s.mends), x, none], ⟨rfl, fun r h => (nomatch h), _, rfl⟩, ?_, ?_⟩
  · rintro i d ρ' M' hi ⟨rfl, hpre, x, rfl⟩
    obtain ⟨r, hs, rfl⟩ := get_map hi
    have hrm := List.mem_of_getElem? hs
    have vr := v.rows r hrm
    refine ⟨_, _, GM.name c (by walk_at "put"), ?_⟩
    refine SM.last (S1.ife (TM.to (P := fun b M' => M = M' ∧ b = (decide (r.length = 0) || !areC r s.copies)) (TM.w (WM.or (TM.to (P := fun b M' => M = M' ∧ b = !decide (1 ≤ r.length ∧ r.length ≤ 6)) (TM.not (TM.chLeLe ?_)) ?_))) ?_))
    · walk_at "es"
      refine e_len c T ?_
      walk_at "es"
      rw [List.length_map]
      refine ⟨trivial, _, rfl, ?_⟩
      by_cases a : 1 ≤ r.length
      · refine ifT (decide_eq_true (by omega)) ?_
        walk_at "es"
        refine ⟨trivial, _, rfl, rfl, ?_⟩
        by_cases b : r.length ≤ 6
        · rw [decide_eq_true (by omega), decide_eq_true ⟨a, b⟩]
        · rw [decide_eq_false (by omega), decide_eq_false fun h => b h.2]
      · exact ifF (decide_eq_false (by omega)) ⟨_, rfl, rfl, by rw [decide_eq_false fun h => a h.1]⟩
    · rintro b M' ⟨rfl, rfl⟩
      by_cases h : 1 ≤ r.length ∧ r.length ≤ 6
      rotate_left
      · refine ifT (by rw [decide_eq_false h] <;> rfl) ⟨rfl, ?_⟩
        by_cases h0 : r.length = 0
        · rw [decide_eq_true h0] <;> rfl
        · rw [decide_eq_false h0, areC_def, decide_eq_false (show ¬ r.length ≤ 6 by omega)] <;> rfl
      refine ifF (by rw [decide_eq_true h] <;> rfl) (WM.or1 (TM.ne hu ?_))
      refine EM.lcFil (α := Int) c (by walk_at "wp") (IW.tup ?_)
      walk_at "e"
      refine ⟨_, rfl, r, D.int, D.int, fun x => !(decide (0 ≤ x) && decide (x < s.copies)), rfl, by omega, fun y hy => ⟨_, by walk_at "put", fun s1 H0 C1 cl fp => ?_, fun hs s1 H0 C1 cl fp => ?_⟩, ?_⟩
      · refine TM.not (TM.chLeLt ?_)
        walk_at "es"
        refine ⟨trivial, _, rfl, ?_⟩
        by_cases a : 0 ≤ y
        · refine ifT (decide_eq_true a) ?_
          walk_at "es"
          exact ⟨trivial, _, rfl, by rw [decide_eq_true a] <;> rfl, rfl⟩
        · exact ifF (decide_eq_false a) ⟨_, rfl, by rw [decide_eq_false a] <;> rfl, rfl⟩
      · walk_at "e"
        exact ⟨rfl, rfl⟩
      · refine EM.lst ?_
        walk_at "e"
        have hokl : Okn 1 (.lst ((badOnes r s.copies).map D.int)) := .lmap (n := 0) fun i _ => .int i
        refine ⟨by show 0 ≤ sizeLine; omega, .lst (_ : List D), .lst [], .same _, .same _, hokl.ok, Okn.ok (n := 1) .nilL, _, rfl, rfl, ?_⟩
        rw [eqv_nilL, decide_eq_false (show ¬ r.length = 0 by omega), areC_def, decide_eq_true h.2, Bool.false_or, Bool.true_and]
        show (!((badOnes r s.copies).map D.int).isEmpty) = _
        cases badOnes r s.copies with
        | nil => rfl
        | cons a l => rfl
    rintro b M' ⟨rfl, rfl⟩
    cases hB : (decide (r.length = 0) || !areC r s.copies) with
    | true =>
      refine ifT rfl (ret rfl ?_)
      unfold whyS
      rw [if_neg (fun h => h h1), if_neg (fun h => h h2), if_neg (fun h => h h3), if_neg (fun h => h h4), if_pos fun h => ?_]
      rw [List.filter_eq_nil_iff] at h
      exact h r hrm hB
    | false =>
      refine ifF rfl (SM.nil ⟨rfl, fun r2 hr2 => ?_, _, rfl⟩)
      rw [List.take_add_one, hs] at hr2
      rcases List.mem_append.mp hr2 with hr2 | hr2
      · exact hpre r2 hr2
      · rw [show r2 = r from by simpa using hr2]; exact hB
  rintro ρ' M' ⟨rfl, hpre, x, rfl⟩
  rw [List.length_map, List.take_length] at hpre
  have hw : whyS s = if areC s.mends s.copies = false then ("mends" : Str) else ("" : Str) := by
    unfold whyS
    rw [if_neg (fun h => h h1), if_neg (fun h => h h2), if_neg (fun h => h h3), if_neg (fun h => h h4), if_neg fun h => h (List.filter_eq_nil_iff.mpr fun r hr2 => by rw [hpre r hr2]; decide)]
  refine SM.last (S1.ret (EM.ife (TM.to (P := fun b M' => M = M' ∧ b = !areC s.mends s.copies) (TM.w (WM.or (TM.gt (e_len c T ?_)))) ?_)))
  · walk_at "es"
    rw [List.length_map]
    refine ⟨trivial, _, rfl, ?_⟩
    by_cases h6 : s.mends.length ≤ 6
    rotate_left
    · exact ifT (decide_eq_true (by omega)) ⟨rfl, by rw [areC_def, decide_eq_false h6] <;> rfl⟩
    refine ifF (decide_eq_false (by omega)) (WM.or1 (TM.ne hu ?_))
    refine EM.lcFil (α := Int) c (by walk_at "wp") (IW.tup ?_)
    walk_at "e"
    refine ⟨_, rfl, s.mends, D.int, D.int, fun x => !(decide (0 ≤ x) && decide (x < s.copies)), rfl, by omega, fun y hy => ⟨_, by walk_at "put", fun s1 H0 C1 cl fp => ?_, fun hs s1 H0 C1 cl fp => ?_⟩, ?_⟩
    · refine TM.not (TM.chLeLt ?_)
      walk_at "es"
      refine ⟨trivial, _, rfl, ?_⟩
      by_cases a : 0 ≤ y
      · refine ifT (decide_eq_true a) ?_
        walk_at "es"
        exact ⟨trivial, _, rfl, by rw [decide_eq_true a] <;> rfl, rfl⟩
      · exact ifF (decide_eq_false a) ⟨_, rfl, by rw [decide_eq_false a] <;> rfl, rfl⟩
    · walk_at "e"
      exact ⟨rfl, rfl⟩
    · refine EM.lst ?_
      walk_at "e"
      have hokl : Okn 1 (.lst ((badOnes s.mends s.copies).map D.int)) := .lmap (n := 0) fun i _ => .int i
      refine ⟨by show 0 ≤ sizeLine; omega, .lst (_ : List D), .lst [], .same _, .same _, hokl.ok, Okn.ok (n := 1) .nilL, _, rfl, rfl, ?_⟩
      rw [eqv_nilL, areC_def, decide_eq_true h6, Bool.true_and]
      show (!((badOnes s.mends s.copies).map D.int).isEmpty) = _
      cases badOnes s.mends s.copies with
      | nil => rfl
      | cons a l => rfl
  rintro b M' ⟨rfl, rfl⟩
  cases h7 : areC s.mends s.copies with
  | false =>
    rw [if_pos h7] at hw
    refine ifT rfl ?_
    walk_at "e"
    rw [hw] at hq
    exact hq
  | true =>
    rw [if_neg (by rw [h7]; decide)] at hw
    refine ifF rfl ?_
    walk_at "e"
    rw [hw] at hq
    exact hq
end
/-! ### the law's rows and setups -/
theorem e_taken {X : Cx} {N : List Str} {sc : Scope} {ρ : Rho} {M : Mem} {P : D → Mem → Prop} {a b : Expr} {pos p1 : Pos} {j : Nat} (c : Dl.Ctx X N sc) (hr : Room j X.A) (G : Gd X.prog X.w X.K X.mg X.base "_law_taken" 1 ["_law_row_here", "_law_many"] STaken)
    (h : EM X a ρ M fun d M1 => EM X b ρ M1 fun e M2 => ∃ (p : Addr) (r : Row) (m : Int) (Mb : Mem), d = .raw (.ref p) ∧ e = .int m ∧ M2 = (p, r.mo) :: Mb ∧ 0 < m ∧ ((0 ≤ (taken r m).1 ∧ (taken r m).1 < m) → P (.int (taken r m).1) ((p, (taken r m).2.mo) :: Mb)))
    (hk : 1 ≤ j := by decide) (h2 : glB sc "_law_taken" = true := by decide +kernel) (he : starEach [a, b] X.env = (false, eval a X.env) :: starEach [b] X.env := by rfl) (he2 : starEach [b] X.env = [(false, eval b X.env)] := by rfl) (hpl : (backTo pos (starEach [b] X.env)).any (·.1) = false := by rfl) : EM X (.Call (.Name "_law_taken" p1) [a, b] [] pos) ρ M P := by
  refine EM.callF c hr G (AM.cons (h.to fun d M1 h => AM.cons (h.to fun e M2 h => AM.nil ?_) he2) he) hk h2 (by decide +kernel) he hpl
  obtain ⟨p, r, m, Mb, rfl, rfl, rfl, h0, hP⟩ := h
  exact ⟨[(p, r.mo)], Mb, rfl, p, r, m, rfl, rfl, h0, hP (taken_lt r h0)⟩
def rowL (r : Row) (n lo hi : Int) : List Int × Row := mapSt (fun (s : Row) (_ : Nat) => taken s n) (taken r (hi - lo + 1)).2 (List.range (lo + (taken r (hi - lo + 1)).1).toNat)
theorem rowL_len (r : Row) {n lo hi : Int} (h : 0 ≤ lo ∧ lo ≤ hi) : lo ≤ ((rowL r n lo hi).1.length : Int) ∧ ((rowL r n lo hi).1.length : Int) ≤ hi := by
  unfold rowL
  rw [mapSt_length, List.length_range]
  have := taken_lt r (m := hi - lo + 1) (by omega)
  omega
theorem rowL_in (r : Row) {n lo hi : Int} (h : 0 < n) : ∀ x ∈ (rowL r n lo hi).1, 0 ≤ x ∧ x < n := mapSt_all (fun s _ => taken_lt s h) _ _
def SLawRow : DA := fun ds M P => ∃ (p : Addr) (r : Row) (n lo hi : Int), ds = [.raw (.ref p), .int n, .int lo, .int hi] ∧ M = [(p, r.mo)] ∧ 0 < n ∧ (0 ≤ lo ∧ lo ≤ hi ∧ hi ≤ 1000) ∧ P (rowD (rowL r n lo hi).1) [(p, (rowL r n lo hi).2.mo)]
theorem monoLawRow : DMono SLawRow := fun ds M P P' h ⟨p, r, n, lo, hi, e1, e2, h0, h1, q⟩ => ⟨p, r, n, lo, hi, e1, e2, h0, h1, h _ _ q⟩
theorem lenLawRow : DLen SLawRow 4 := fun ds M P ⟨p, r, n, lo, hi, e1, e2, h0, h1, q⟩ => by rw [e1] <;> rfl
abbrev nLawRow : List Str := ["_law_row_here", "_law_copies", "_law_least", "_law_most", "_law_k"]
theorem sc_lawrow : FnScope nLawRow ["_law_row_here", "_law_copies", "_law_least", "_law_most"] (defScope s__law_row) := ⟨rfl, rfl, rfl, by decide +kernel, rfl, by decide +kernel, by decide +kernel⟩
section
variable {P : Program} {w : World} {K : PySem.W.Frag} {mg : Str → Option Value} {base : Heap} {f C : Addr} {fd : FuncData}
theorem ok_lawrow (F : Fun K "_law_row" "_law_row" s__law_row f fd) (hm : mg "_law_row" = some (.ref f)) (hb : Binds K fd ["_law_row_here", "_law_copies", "_law_least", "_law_most"] []) (T : Bn mg) (Gt : Gd P w K mg base "_law_taken" 1 ["_law_row_here", "_law_many"] STaken) : Gd P w K mg base "_law_row" 2 ["_law_row_here", "_law_copies", "_law_least", "_law_most"] SLawRow := by
  refine ok_def F sc_lawrow hm hb monoLawRow lenLawRow ?_
  rintro X rfl rfl rfl rfl rfl c hr ds M Q ⟨p, r, n, lo, hi, rfl, rfl, h0, ⟨h1, h2, h3⟩, hq⟩
  show SM X _ [some (.raw (.ref p)), some (.int n), some (.int lo), some (.int hi), none] _ _
  refine SM.last (S1.ret (e_tuple c T (EM.lcSt (α := Nat) (β := Int) (S := Row) c (by walk_at "wp") (i_range1 c T ?_))))
  refine EM.add ?_
  walk_at "e"
  refine e_taken c hr Gt ?_
  walk_at "es"
  refine ⟨trivial, ?_⟩
  walk_at "es"
  refine ⟨p, r, _, [], rfl, rfl, rfl, by omega, fun hv => ?_⟩
  refine ⟨_, rfl, ⟨by omega, by omega⟩, List.range (lo + (taken r (hi - lo + 1)).1).toNat, fun k => .int ((0 : Int) + (k : Nat)), fun s _ => taken s n, D.int, fun s => [(p, s.mo)], fun _ => True, (taken r (hi - lo + 1)).2, rfl, by rw [List.length_range]; omega, rfl, trivial, fun k _ s _ => ⟨_, by walk_at "put", fun s1 H0 C1 cl fp => ?_⟩, fun _ => hq⟩
  refine e_taken (X := Bk X _ s1 H0 C1 cl fp) (by walk_at "cx") hr Gt ?_
  walk_at "es"
  exact ⟨p, s, n, [], rfl, rfl, rfl, h0, fun _ => ⟨rfl, rfl, trivial⟩⟩
theorem areC_of {l : List Int} {n : Int} (h1 : (l.length : Int) ≤ 6) (h2 : ∀ x ∈ l, 0 ≤ x ∧ x < n) : areC l n = true := by
  unfold areC
  rw [decide_eq_true (by omega), Bool.true_and, decide_eq_true_iff, List.filter_eq_nil_iff]
  intro x hx
  have := h2 x hx
  simp
  omega
def allC (n : Int) : List Int := (List.range n.toNat).map fun k : Nat => ((k : Nat) : Int)
theorem allC_ok {n : Int} (h : 1 ≤ n ∧ n ≤ 3) : allC n ≠ [] ∧ areC (allC n) n = true := by
  have hl : (allC n).length = n.toNat := by unfold allC; rw [List.length_map, List.length_range]
  refine ⟨fun e => by rw [e] at hl; simp at hl; omega, areC_of (by omega) fun x hx => ?_⟩
  unfold allC at hx
  obtain ⟨k, hk, rfl⟩ := List.mem_map.mp hx
  have := List.mem_range.mp hk
  omega
theorem rowL_ok (r : Row) {n lo hi : Int} (h : 0 ≤ lo ∧ lo ≤ hi ∧ hi ≤ 6) (hn : 0 < n) : areC (rowL r n lo hi).1 n = true := areC_of (by have := rowL_len r (n := n) ⟨h.1, h.2.1⟩; omega) (rowL_in r hn)
theorem rowL_ne (r : Row) {n lo hi : Int} (h : 1 ≤ lo ∧ lo ≤ hi) : (rowL r n lo hi).1 ≠ [] := fun e => by
  have := rowL_len r (n := n) (lo := lo) (hi := hi) ⟨by omega, h.2⟩
  rw [e] at this
  simp at this
  omega
/-- rows that may stand in a setup of n copies -/
structure Turns (n : Int) (ts : List (List Int)) : Prop where
  len : 1 ≤ ts.length ∧ ts.length ≤ 3
  rows : ∀ r ∈ ts, r ≠ [] ∧ areC r n = true
theorem turns_each {n : Int} (h : 1 ≤ n ∧ n ≤ 3) : Turns n ((allC n).map fun k => [k]) := by
  have hl : (allC n).length = n.toNat := by unfold allC; rw [List.length_map, List.length_range]
  refine ⟨by rw [List.length_map]; omega, fun r hr => ?_⟩
  obtain ⟨k, hk, rfl⟩ := List.mem_map.mp hr
  refine ⟨by simp, areC_of (by show ((1 : Nat) : Int) ≤ 6; decide) fun x hx => ?_⟩
  have e : x = k := by simpa using hx
  subst e
  exact areC_in (allC_ok h).2 x hk
theorem turns_all {n : Int} (h : 1 ≤ n ∧ n ≤ 3) : Turns n [allC n] := ⟨by show 1 ≤ 1 ∧ 1 ≤ 3; decide, fun r hr => by
  have e : r = allC n := by simpa using hr
  subst e
  exact allC_ok h⟩
end
section
variable {P : Program} {w : World} {K : PySem.W.Frag} {mg : Str → Option Value} {base : Heap} {f C : Addr} {fd : FuncData}
def SLawSetup : DA := fun ds M P => ∃ (p : Addr) (r : Row), ds = [.raw (.ref p)] ∧ M = [(p, r.mo)] ∧ ∀ s r', Valid s → P (setupD s) [(p, Row.mo r')]
theorem monoLawSetup : DMono SLawSetup := fun ds M P P' h ⟨p, r, e1, e2, q⟩ => ⟨p, r, e1, e2, fun s r' v => h _ _ (q s r' v)⟩
theorem lenLawSetup : DLen SLawSetup 1 := fun ds M P ⟨p, r, e1, e2, q⟩ => by rw [e1] <;> rfl
abbrev nLawSetup : List Str := ["_law_row_here", "_law_kind", "_law_copies", "_law_any_one", "_law_reader", "_law_way", "_law_turns", "_law_most", "_law_mends", "_law_k"]
theorem sc_lawsetup : FnScope nLawSetup ["_law_row_here"] (defScope s__law_setup) := ⟨rfl, rfl, rfl, by decide +kernel, rfl, by decide +kernel, by decide +kernel⟩
theorem ok_lawsetup (F : Fun K "_law_setup" "_law_setup" s__law_setup f fd) (hm : mg "_law_setup" = some (.ref f)) (hb : Binds K fd ["_law_row_here"] []) (T : Bn mg) (Gt : Gd P w K mg base "_law_taken" 1 ["_law_row_here", "_law_many"] STaken) (Gr : Gd P w K mg base "_law_row" 2 ["_law_row_here", "_law_copies", "_law_least", "_law_most"] SLawRow) : Gd P w K mg base "_law_setup" 3 ["_law_row_here"] SLawSetup := by
  refine ok_def F sc_lawsetup hm hb monoLawSetup lenLawSetup ?_
  rintro X rfl rfl rfl rfl rfl c hr ds M Q ⟨p, r, rfl, rfl, hq⟩
  have hu := hr.units
  show SM X _ [some (.raw (.ref p)), none, none, none, none, none, none, none, none, none] _ _
  -- kind
  refine SM.seq (S1.set c (EM.ix ix_seq dIx (EM.lst ?_)))
  walk_at "es"
  refine ⟨by show 2 ≤ sizeLine; decide, e_taken c hr Gt ?_⟩
  walk_at "es"
  refine ⟨p, r, 2, [], rfl, rfl, rfl, by decide, fun hv => ?_⟩
  generalize (taken r 2).1 = v1 at hv
  generalize (taken r 2).2 = r1
  obtain ⟨kind, hk, ek⟩ : ∃ k : Str, k ∈ kinds ∧ L2.atI [D.str "checked", D.str "plain"] v1 = some (.str k) := by
    obtain ⟨d, hd, e⟩ := atI_mem (l := [D.str "checked", D.str "plain"]) hv.1 hv.2
    simp only [List.mem_cons, List.not_mem_nil, or_false] at hd
    rcases hd with rfl | rfl
    · exact ⟨_, by decide +kernel, e⟩
    · exact ⟨_, by decide +kernel, e⟩
  refine ⟨_, ek, _, by walk_at "put", ?_⟩
  -- copies
  refine SM.seq (S1.set c (EM.ix ix_seq dIx (EM.lst ?_)))
  refine AM.cons (EM.int (AM.cons (EM.int (AM.cons (EM.add ?_)))))
  walk_at "e"
  refine e_taken c hr Gt ?_
  walk_at "es"
  refine ⟨p, r1, 3, [], rfl, rfl, rfl, by decide, fun hv2 => ?_⟩
  generalize (taken r1 3).1 = v2 at hv2
  generalize (taken r1 3).2 = r2
  walk_at "es"
  refine ⟨by show 3 ≤ sizeLine; decide, e_taken c hr Gt ?_⟩
  walk_at "es"
  refine ⟨p, r2, 3, [], rfl, rfl, rfl, by decide, fun hv3 => ?_⟩
  generalize (taken r2 3).1 = v3 at hv3
  generalize (taken r2 3).2 = r3
  obtain ⟨n, hn, en⟩ : ∃ n : Int, (1 ≤ n ∧ n ≤ 3) ∧ L2.atI [D.int 2, D.int 3, D.int (1 + v2)] v3 = some (.int n) := by
    obtain ⟨d, hd, e⟩ := atI_mem (l := [D.int 2, D.int 3, D.int (1 + v2)]) hv3.1 hv3.2
    simp only [List.mem_cons, List.not_mem_nil, or_false] at hd
    rcases hd with rfl | rfl | rfl
    · exact ⟨_, by decide, e⟩
    · exact ⟨_, by decide, e⟩
    · exact ⟨_, by omega, e⟩
  refine ⟨_, en, _, by walk_at "put", ?_⟩
  -- any_one
  refine SM.seq (S1.set c (EM.ix ix_seq dIx (EM.lst ?_)))
  walk_at "es"
  refine ⟨by show 3 ≤ sizeLine; decide, e_taken c hr Gt ?_⟩
  walk_at "es"
  refine ⟨p, r3, 3, [], rfl, rfl, rfl, by decide, fun hv4 => ?_⟩
  generalize (taken r3 3).1 = v4 at hv4
  generalize (taken r3 3).2 = r4
  obtain ⟨any1, ha1, ea1⟩ : ∃ k : Str, k ∈ readers ∧ L2.atI [D.str "most", D.str "least", D.str "middle"] v4 = some (.str k) := by
    obtain ⟨d, hd, e⟩ := atI_mem (l := [D.str "most", D.str "least", D.str "middle"]) hv4.1 hv4.2
    simp only [List.mem_cons, List.not_mem_nil, or_false] at hd
    rcases hd with rfl | rfl | rfl
    · exact ⟨_, by decide +kernel, e⟩
    · exact ⟨_, by decide +kernel, e⟩
    · exact ⟨_, by decide +kernel, e⟩
  refine ⟨_, ea1, _, by walk_at "put", ?_⟩
  -- reader
  refine SM.seq (S1.set c (EM.ix ix_seq dIx (EM.lst (AM.cons (EM.ix ix_seq dIx (EM.lst ?_))))))
  walk_at "es"
  refine ⟨by show 2 ≤ sizeLine; decide, ?_⟩
  walk_at "c"
  walk_at "es"
  obtain ⟨one, ho, eo⟩ : ∃ k : Str, k ∈ readers ∧ L2.atI [D.str "most", D.str "middle"] (if decide (kind = "plain") = true then 1 else 0) = some (.str k) := by
    by_cases h : kind = "plain"
    · exact ⟨"middle", by decide +kernel, by rw [if_pos (decide_eq_true h)] <;> rfl⟩
    · exact ⟨"most", by decide +kernel, by rw [if_neg (by rw [decide_eq_false h]; exact Bool.false_ne_true)] <;> rfl⟩
  refine ⟨_, eo, ?_⟩
  walk_at "es"
  refine ⟨by show 2 ≤ sizeLine; decide, e_taken c hr Gt ?_⟩
  walk_at "es"
  refine ⟨p, r4, 2, [], rfl, rfl, rfl, by decide, fun hv5 => ?_⟩
  generalize (taken r4 2).1 = v5 at hv5
  generalize (taken r4 2).2 = r5
  obtain ⟨rd, hrd, erd⟩ : ∃ k : Str, k ∈ readers ∧ L2.atI [D.str one, D.str any1] v5 = some (.str k) := by
    obtain ⟨d, hd, e⟩ := atI_mem (l := [D.str one, D.str any1]) hv5.1 hv5.2
    simp only [List.mem_cons, List.not_mem_nil, or_false] at hd
    rcases hd with rfl | rfl
    · exact ⟨_, ho, e⟩
    · exact ⟨_, ha1, e⟩
  refine ⟨_, erd, _, by walk_at "put", ?_⟩
  -- way
  refine SM.seq (S1.set c (e_taken c hr Gt ?_))
  walk_at "es"
  refine ⟨p, r5, 4, [], rfl, rfl, rfl, by decide, fun hv6 => ⟨_, by walk_at "put", ?_⟩⟩
  generalize (taken r5 4).1 = v6 at hv6
  generalize (taken r5 4).2 = r6
  refine SM.seq (S1.join (fun ρ' M' => ∃ (ts : List (List Int)) (r' : Row) (z : Option D), Turns n ts ∧ M' = [(p, r'.mo)] ∧ ρ' = [some (.raw (.ref p)), some (.str kind), some (.int n), some (.str any1), some (.str rd), some (.int v6), some (.tup (ts.map rowD)), z, none, none]) (S1.ife ?_) ?_)
  · walk_at "es"
    refine ⟨_, rfl, ?_⟩
    by_cases w0 : v6 = 0
    · refine ifT (decide_eq_true w0) (SM.last (S1.set c (e_tuple c T (EM.lcMap (α := Nat) c (by walk_at "wp") (i_range1 c T ?_)))))
      walk_at "e"
      refine ⟨n, rfl, ⟨by omega, by omega⟩, List.range n.toNat, fun k => .int ((0 : Int) + (k : Nat)), fun k => rowD [((k : Nat) : Int)], rfl, by rw [List.length_range]; omega, fun k _ => ⟨_, by walk_at "put", fun s1 H0 C1 cl fp => ?_⟩, _, by walk_at "put", (allC n).map fun k => [k], r6, none, turns_each hn, rfl, ?_⟩
      · walk_at "es"
        rw [Int.zero_add]
        exact ⟨by show 1 ≤ sizeLine; decide, rfl, rfl⟩
      · unfold allC
        rw [List.map_map, List.map_map] <;> rfl
    · refine ifF (decide_eq_false w0) (SM.last (S1.ife ?_))
      walk_at "es"
      refine ⟨_, rfl, ?_⟩
      by_cases w1 : v6 = 1
      · refine ifT (decide_eq_true w1) (SM.last (S1.set c (EM.tup (AM.cons (EM.tupRg c T.tuple T.range ?_)))))
        walk_at "e"
        refine ⟨n, rfl, ⟨by omega, by omega⟩, ?_⟩
        walk_at "e"
        refine ⟨by show 1 ≤ sizeLine; decide, _, by walk_at "put", [allC n], r6, none, turns_all hn, rfl, ?_⟩
        rw [rngD_map] <;> rfl
      · refine ifF (decide_eq_false w1) ?_
        refine SM.seq (S1.set c (EM.ix ix_seq dIx (EM.lst ?_)))
        walk_at "es"
        refine ⟨by show 2 ≤ sizeLine; decide, e_taken c hr Gt ?_⟩
        walk_at "es"
        refine ⟨p, r6, 2, [], rfl, rfl, rfl, by decide, fun hv7 => ?_⟩
        generalize (taken r6 2).1 = v7 at hv7
        generalize (taken r6 2).2 = r7
        obtain ⟨mo, hmo, emo⟩ : ∃ m : Int, (1 ≤ m ∧ m ≤ 6) ∧ L2.atI [D.int 3, D.int 6] v7 = some (.int m) := by
          obtain ⟨d, hd, e⟩ := atI_mem (l := [D.int 3, D.int 6]) hv7.1 hv7.2
          simp only [List.mem_cons, List.not_mem_nil, or_false] at hd
          rcases hd with rfl | rfl
          · exact ⟨_, by decide, e⟩
          · exact ⟨_, by decide, e⟩
        refine ⟨_, emo, _, by walk_at "put", ?_⟩
        refine SM.last (S1.set c (e_tuple c T (EM.lcSt (α := Nat) (β := List Int) (S := Row) c (by walk_at "wp") (i_range1 c T (EM.add ?_)))))
        walk_at "e"
        refine e_taken c hr Gt ?_
        walk_at "es"
        refine ⟨p, r7, 3, [], rfl, rfl, rfl, by decide, fun hv8 => ?_⟩
        generalize (taken r7 3).1 = v8 at hv8
        generalize (taken r7 3).2 = r8
        refine ⟨_, rfl, ⟨by omega, by omega⟩, List.range (1 + v8).toNat, fun k => .int ((0 : Int) + (k : Nat)), fun s _ => rowL s n 1 mo, rowD, fun s => [(p, s.mo)], fun _ => True, r8, rfl, by rw [List.length_range]; omega, rfl, trivial, fun k _ s _ => ⟨_, by walk_at "put", fun s1 H0 C1 cl fp => ?_⟩, fun _ => ⟨_, by walk_at "put", _, _, _, ⟨?_, ?_⟩, rfl, rfl⟩⟩
        · refine EM.callF (X := Bk X _ s1 H0 C1 cl fp) (by walk_at "cx") hr Gr ?_
          walk_at "es"
          exact ⟨[(p, s.mo)], [], rfl, p, s, n, 1, mo, rfl, rfl, by omega, by omega, rfl, rfl, trivial⟩
        · rw [mapSt_length, List.length_range]; omega
        · exact mapSt_all (fun s _ => ⟨rowL_ne s ⟨by decide, hmo.1⟩, rowL_ok s ⟨by decide, hmo.1, hmo.2⟩ (by omega)⟩) _ _
  rintro ρ' M' ⟨ts, r7, z, hts, rfl, rfl⟩
  -- mends
  refine SM.seq (S1.set c (EM.ix ix_seq dIx (EM.lst (AM.cons (EM.tup (AM.nil ⟨by show 0 ≤ sizeLine; decide, AM.cons (EM.tupRg c T.tuple T.range ?_)⟩))))))
  walk_at "e"
  refine ⟨n, rfl, ⟨by omega, by omega⟩, AM.cons (EM.callF c hr Gr ?_)⟩
  walk_at "es"
  refine ⟨[(p, r7.mo)], [], rfl, p, r7, n, 0, 4, rfl, rfl, by omega, by omega, ?_⟩
  walk_at "es"
  refine ⟨by show 3 ≤ sizeLine; decide, e_taken c hr Gt ?_⟩
  walk_at "es"
  have hl4 := rowL_ok r7 (n := n) (lo := 0) (hi := 4) (by decide) (by omega)
  generalize rowL r7 n 0 4 = l4 at hl4
  refine ⟨p, l4.2, 3, [], rfl, rfl, rfl, by decide, fun hv9 => ?_⟩
  generalize (taken l4.2 3).1 = v9 at hv9
  generalize (taken l4.2 3).2 = r9
  obtain ⟨me, hme, eme⟩ : ∃ m : List Int, areC m n = true ∧ L2.atI [D.tup [], D.tup (rngD 0 n.toNat), rowD l4.1] v9 = some (rowD m) := by
    obtain ⟨d, hd, e⟩ := atI_mem (l := [D.tup [], D.tup (rngD 0 n.toNat), rowD l4.1]) hv9.1 hv9.2
    simp only [List.mem_cons, List.not_mem_nil, or_false] at hd
    rcases hd with rfl | rfl | rfl
    · exact ⟨[], areC_of (by decide) (fun x h => by cases h), e⟩
    · exact ⟨allC n, (allC_ok hn).2, by rw [e, rngD_map] <;> rfl⟩
    · exact ⟨_, hl4, e⟩
  refine ⟨_, eme, _, by walk_at "put", ?_⟩
  refine SM.last (S1.ret ?_)
  walk_at "es"
  exact ⟨by show 5 ≤ sizeLine; decide, hq ⟨kind, n, rd, ts, me⟩ r9 ⟨hk, hn, hrd, hts.len, hts.rows, hme⟩⟩
end
/-! ### a setup told otherwise in one place -/
theorem atI_pick {l : List D} {v : Int} {Q : D → Prop} (h0 : 0 ≤ v) (h1 : v < (l.length : Int)) (h : ∀ d ∈ l, Q d) : ∃ z, L2.atI l v = some z ∧ Q z := by
  obtain ⟨d, hd, e⟩ := atI_mem h0 h1
  exact ⟨d, e, h d hd⟩
/-- how long a setup's parts are -/
structure Lens (n : Nat) (s : Setup) : Prop where
  turns : s.turns.length ≤ n
  rows : ∀ r ∈ s.turns, r.length ≤ n
  mends : s.mends.length ≤ n
theorem lens_valid {s : Setup} (v : Valid s) : Lens 6 s := ⟨by have := v.turns; omega, fun r hr => areC_len (v.rows r hr).2, areC_len v.mends⟩
theorem lens_short {n : Nat} {s : Setup} (l : Lens n s) (h : n ≤ 10000) : Short s := ⟨by have := l.turns; omega, fun r hr => by have := l.rows r hr; omega, by have := l.mends; omega⟩
theorem rep_ints (k : Nat) (z : Int) : (List.replicate k [D.int z]).flatten = (List.replicate k z).map D.int := by
  induction k with
  | zero => rfl
  | succ k ih => rw [List.replicate_succ, List.flatten_cons, ih, List.replicate_succ, List.map_cons] <;> rfl
theorem flat_rows (k : Nat) (ts : List (List Int)) : (List.replicate k (ts.map rowD)).flatten = (List.replicate k ts).flatten.map rowD := by
  induction k with
  | zero => rfl
  | succ k ih => rw [List.replicate_succ, List.flatten_cons, ih, List.replicate_succ, List.flatten_cons, List.map_append]
def SSpoil (n : Nat) : DA := fun ds M P => ∃ (p : Addr) (r : Row) (s : Setup), ds = [.raw (.ref p), setupD s] ∧ M = [(p, r.mo)] ∧ Lens n s ∧ ∀ s' r', Lens (4 * n + 8) s' → P (setupD s') [(p, Row.mo r')]
theorem monoSpoil (n : Nat) : DMono (SSpoil n) := fun ds M P P' h ⟨p, r, s, e1, e2, e3, q⟩ => ⟨p, r, s, e1, e2, e3, fun t' r' a => h _ _ (q t' r' a)⟩
theorem lenSpoil (n : Nat) : DLen (SSpoil n) 2 := fun ds M P ⟨p, r, t, e1, _⟩ => by rw [e1] <;> rfl
abbrev nSpoil : List Str := ["_law_row_here", "_law_setup_here", "_law_kind", "_law_copies", "_law_reader", "_law_turns", "_law_mends", "_law_far", "_law_way", "_law_odd", "_law_k"]
theorem sc_spoil : FnScope nSpoil ["_law_row_here", "_law_setup_here"] (defScope s__law_spoilt) := ⟨rfl, rfl, rfl, by decide +kernel, rfl, by decide +kernel, by decide +kernel⟩
/-- .. behind each step -/
def SpJ (p : Addr) (d1 far way odd : D) (A : Str → Int → Str → List (List Int) → List Int → Prop) : Rho → Mem → Prop := fun ρ M' => ∃ (kd : Str) (cp : Int) (rd : Str) (ts : List (List Int)) (md : List Int) (r' : Row) (x : Option D), ρ = [some (.raw (.ref p)), some d1, some (.str kd), some (.int cp), some (.str rd), some (.tup (ts.map rowD)), some (rowD md), some far, some way, some odd, x] ∧ M' = [(p, r'.mo)] ∧ A kd cp rd ts md
section
variable {P : Program} {w : World} {K : PySem.W.Frag} {mg : Str → Option Value} {base : Heap} {f C E : Addr} {fd : FuncData}
theorem ok_spoil (n : Nat) (hn : n ≤ 200) (F : Fun K "_law_spoilt" "_law_spoilt" s__law_spoilt f fd) (hm : mg "_law_spoilt" = some (.ref f)) (hb : Binds K fd ["_law_row_here", "_law_setup_here"] []) (T : Bn mg) (Gt : Gd P w K mg base "_law_taken" 1 ["_law_row_here", "_law_many"] STaken) : Gd P w K mg base "_law_spoilt" 2 ["_law_row_here", "_law_setup_here"] (SSpoil n) := by
  refine ok_def F sc_spoil hm hb (monoSpoil n) (lenSpoil n) ?_
  rintro X rfl rfl rfl rfl rfl c hr ds M Q ⟨p, r, s, rfl, rfl, hl, hq⟩
  have hu := hr.units
  have hz : 1000000 ≤ sizeLine := by decide
  have l1 := hl.turns
  have l2 := hl.rows
  have l3 := hl.mends
  show SM X _ [some (.raw (.ref p)), some (setupD s), none, none, none, none, none, none, none, none, none] [(p, r.mo)] _
  refine SM.seq (S1.asg c ?_)
  walk_at "e"
  refine ⟨_, _, GM.tup c (GMs.cons (GM.name c (by walk_at "put")) (GMs.cons (GM.name c (by walk_at "put")) (GMs.cons (GM.name c (by walk_at "put")) (GMs.cons (GM.name c (by walk_at "put")) (GMs.cons (GM.name c (by walk_at "put")) GMs.nil))))), ?_⟩
  refine SM.seq (S1.set c (e_taken c hr Gt ?_))
  walk_at "es"
  refine ⟨p, r, 1000, [], rfl, rfl, rfl, by decide, fun hv1 => ⟨_, by walk_at "put", ?_⟩⟩
  generalize (taken r 1000).1 = far at hv1
  generalize (taken r 1000).2 = r1
  refine SM.seq (S1.set c (e_taken c hr Gt ?_))
  walk_at "es"
  refine ⟨p, r1, 5, [], rfl, rfl, rfl, by decide, fun hv2 => ⟨_, by walk_at "put", ?_⟩⟩
  generalize (taken r1 5).1 = way at hv2
  generalize (taken r1 5).2 = r2
  -- odd
  refine SM.seq (S1.set c (EM.to (P := fun d M1 => ∃ (o : List Int) (r' : Row), d = rowD o ∧ o.length ≤ 7 ∧ M1 = [(p, r'.mo)]) (EM.catA (EM.repTA ?_)) ?_))
  · walk_at "es"
    refine ⟨by show 1 ≤ sizeLine; omega, e_taken c hr Gt ?_⟩
    walk_at "es"
    refine ⟨p, r2, 7, [], rfl, rfl, rfl, by decide, fun hv3 => ?_⟩
    generalize (taken r2 7).1 = v3 at hv3
    generalize (taken r2 7).2 = r3
    refine ⟨by omega, by omega, by show 1 ≤ 1000; decide, ?_⟩
    rw [rep_ints]
    refine EM.tup (AM.cons (EM.ix ix_seq dIx (EM.lst ?_)))
    walk_at "es"
    refine ⟨trivial, ?_⟩
    walk_at "es"
    refine ⟨by show 4 ≤ sizeLine; omega, e_taken c hr Gt ?_⟩
    walk_at "es"
    refine ⟨p, r3, 4, [], rfl, rfl, rfl, by decide, fun hv4 => atI_pick hv4.1 hv4.2 fun d hd => ?_⟩
    obtain ⟨z, rfl⟩ : ∃ z, d = .int z := by
      simp only [List.mem_cons, List.not_mem_nil, or_false] at hd
      rcases hd with rfl | rfl | rfl | rfl <;> exact ⟨_, rfl⟩
    generalize (taken r3 4).2 = r4
    refine AM.nil ⟨by show 1 ≤ sizeLine; omega, ?_, List.replicate v3.toNat 0 ++ [z], r4, ?_, ?_, rfl⟩
    · rw [List.length_map, List.length_replicate]
      show _ + 1 ≤ sizeLine
      omega
    · show D.tup _ = .tup _
      rw [List.map_append] <;> rfl
    · rw [List.length_append, List.length_replicate]
      show _ + 1 ≤ 7
      omega
  rintro d M1 ⟨o, r5, rfl, ho, rfl⟩
  refine ⟨_, by walk_at "put", ?_⟩
  show SM X _ [some (.raw (.ref p)), some (setupD s), some (.str s.kind), some (.int s.copies), some (.str s.reader), some (.tup (s.turns.map rowD)), some (rowD s.mends), some (.int far), some (.int way), some (rowD o), none] [(p, r5.mo)] _
  -- kind
  refine SM.seq (S1.join (SpJ p (setupD s) (.int far) (.int way) (rowD o) fun _ _ _ ts md => ts = s.turns ∧ md = s.mends) (S1.ife (TM.eq hu ?_)) ?_)
  · walk_at "es"
    refine ⟨_, rfl, ?_⟩
    by_cases h : way = 0
    · refine ifT (decide_eq_true h) (SM.last (S1.set c (EM.ix ix_seq dIx (EM.lst ?_))))
      walk_at "es"
      refine ⟨by show 4 ≤ sizeLine; omega, e_taken c hr Gt ?_⟩
      walk_at "es"
      refine ⟨p, r5, 4, [], rfl, rfl, rfl, by decide, fun hv => atI_pick hv.1 hv.2 fun d hd => ?_⟩
      obtain ⟨z, rfl⟩ : ∃ z, d = .str z := by
        simp only [List.mem_cons, List.not_mem_nil, or_false] at hd
        rcases hd with rfl | rfl | rfl | rfl <;> exact ⟨_, rfl⟩
      exact ⟨_, by walk_at "put", z, _, _, _, _, _, _, rfl, rfl, rfl, rfl⟩
    · exact ifF (decide_eq_false h) (SM.nil ⟨_, _, _, _, _, r5, _, rfl, rfl, rfl, rfl⟩)
  rintro ρ M' ⟨kd, cp, rd, ts, md, r6, x, rfl, rfl, rfl, rfl⟩
  -- copies
  refine SM.seq (S1.join (SpJ p (setupD s) (.int far) (.int way) (rowD o) fun _ _ _ ts md => ts = s.turns ∧ md = s.mends) (S1.ife (TM.eq hu ?_)) ?_)
  · walk_at "es"
    refine ⟨_, rfl, ?_⟩
    by_cases h : way = 1
    · refine ifT (decide_eq_true h) (SM.last (S1.set c (EM.ix ix_seq dIx (EM.lst ?_))))
      walk_at "es"
      refine ⟨trivial, ?_⟩
      walk_at "es"
      refine ⟨trivial, ?_⟩
      walk_at "es"
      refine ⟨by show 5 ≤ sizeLine; omega, e_taken c hr Gt ?_⟩
      walk_at "es"
      refine ⟨p, r6, 5, [], rfl, rfl, rfl, by decide, fun hv => atI_pick hv.1 hv.2 fun d hd => ?_⟩
      obtain ⟨z, rfl⟩ : ∃ z, d = .int z := by
        simp only [List.mem_cons, List.not_mem_nil, or_false] at hd
        rcases hd with rfl | rfl | rfl | rfl | rfl <;> exact ⟨_, rfl⟩
      exact ⟨_, by walk_at "put", kd, z, _, _, _, _, _, rfl, rfl, rfl, rfl⟩
    · exact ifF (decide_eq_false h) (SM.nil ⟨kd, cp, rd, _, _, r6, _, rfl, rfl, rfl, rfl⟩)
  rintro ρ M' ⟨kd, cp, rd, ts, md, r7, x, rfl, rfl, rfl, rfl⟩
  -- reader
  refine SM.seq (S1.join (SpJ p (setupD s) (.int far) (.int way) (rowD o) fun _ _ _ ts md => ts = s.turns ∧ md = s.mends) (S1.ife (TM.eq hu ?_)) ?_)
  · walk_at "es"
    refine ⟨_, rfl, ?_⟩
    by_cases h : way = 2
    · refine ifT (decide_eq_true h) (SM.last (S1.set c (EM.ix ix_seq dIx (EM.lst ?_))))
      walk_at "es"
      refine ⟨by show 4 ≤ sizeLine; omega, e_taken c hr Gt ?_⟩
      walk_at "es"
      refine ⟨p, r7, 4, [], rfl, rfl, rfl, by decide, fun hv => atI_pick hv.1 hv.2 fun d hd => ?_⟩
      obtain ⟨z, rfl⟩ : ∃ z, d = .str z := by
        simp only [List.mem_cons, List.not_mem_nil, or_false] at hd
        rcases hd with rfl | rfl | rfl | rfl <;> exact ⟨_, rfl⟩
      exact ⟨_, by walk_at "put", kd, cp, z, _, _, _, _, rfl, rfl, rfl, rfl⟩
    · exact ifF (decide_eq_false h) (SM.nil ⟨kd, cp, rd, _, _, r7, _, rfl, rfl, rfl, rfl⟩)
  rintro ρ M' ⟨kd, cp, rd, ts, md, r8, x, rfl, rfl, rfl, rfl⟩
  -- turns
  refine SM.seq (S1.join (SpJ p (setupD s) (.int far) (.int way) (rowD o) fun _ _ _ ts md => (ts.length ≤ 4 * n + 8 ∧ ∀ r ∈ ts, r.length ≤ 4 * n + 8) ∧ md = s.mends) (S1.ife (TM.eq hu ?_)) ?_)
  · walk_at "es"
    refine ⟨_, rfl, ?_⟩
    by_cases h : way = 3
    · refine ifT (decide_eq_true h) (SM.seq (S1.set c (e_taken c hr Gt ?_)))
      walk_at "es"
      refine e_len c T ?_
      walk_at "es"
      rw [List.length_map]
      refine ⟨p, r8, (s.turns.length : Int) + 1, [], rfl, rfl, rfl, by omega, fun hv => ⟨_, by walk_at "put", ?_⟩⟩
      obtain ⟨k, hk⟩ : ∃ k : Nat, (taken r8 ((s.turns.length : Int) + 1)).1 = (k : Int) := ⟨_, (Int.toNat_of_nonneg hv.1).symm⟩
      rw [hk]
      generalize (taken r8 ((s.turns.length : Int) + 1)).2 = r9
      refine SM.last (S1.set c (EM.ix ix_seq dIx (EM.lst (AM.cons (EM.tup (AM.nil ⟨by show 0 ≤ sizeLine; omega, AM.cons (EM.repTA ?_)⟩))))))
      walk_at "es"
      refine ⟨by decide, by decide, by rw [List.length_map]; omega, ?_⟩
      rw [flat_rows]
      refine AM.cons (EM.catA (EM.catA (EM.tupHi ?_)))
      walk_at "es"
      refine ⟨_, k, rfl, rfl, ?_⟩
      walk_at "es"
      refine ⟨by show 1 ≤ sizeLine; omega, ?_⟩
      refine ⟨by rw [List.length_take, List.length_map]; show _ + 1 ≤ sizeLine; omega, EM.tupLo ?_⟩
      walk_at "es"
      refine ⟨_, k + 1, rfl, by rw [Int.natCast_add] <;> rfl, ?_⟩
      refine ⟨by rw [List.length_append, List.length_take, List.length_drop, List.length_map]; show _ + 1 + _ ≤ sizeLine; omega, ?_⟩
      refine AM.cons (EM.catA (EM.catA (EM.tupHi ?_)))
      walk_at "es"
      refine ⟨_, k, rfl, rfl, EM.tup (AM.cons (EM.tup (AM.nil ⟨by show 0 ≤ sizeLine; omega, AM.nil ⟨by show 1 ≤ sizeLine; omega, ?_⟩⟩)))⟩
      refine ⟨by rw [List.length_take, List.length_map]; show _ + 1 ≤ sizeLine; omega, EM.tupLo ?_⟩
      walk_at "es"
      refine ⟨_, k, rfl, rfl, ?_⟩
      refine ⟨by rw [List.length_append, List.length_take, List.length_drop, List.length_map]; show _ + 1 + _ ≤ sizeLine; omega, ?_⟩
      walk_at "es"
      refine ⟨by show 4 ≤ sizeLine; omega, e_taken c hr Gt ?_⟩
      walk_at "es"
      refine ⟨p, r9, 4, [], rfl, rfl, rfl, by decide, fun hv4 => atI_pick hv4.1 hv4.2 fun d hd => ?_⟩
      generalize (taken r9 4).2 = r10
      obtain ⟨ts, rfl, t1, t2⟩ : ∃ ts : List (List Int), d = .tup (ts.map rowD) ∧ ts.length ≤ 4 * n + 8 ∧ ∀ r ∈ ts, r.length ≤ 4 * n + 8 := by
        simp only [List.mem_cons, List.not_mem_nil, or_false] at hd
        have key : ∀ r ∈ s.turns, r.length ≤ 4 * n + 8 := fun r hr2 => by have := l2 r hr2; omega
        rcases hd with rfl | rfl | rfl | rfl
        · exact ⟨[], rfl, Nat.zero_le _, fun r h => (nomatch h)⟩
        · refine ⟨(List.replicate 4 s.turns).flatten, rfl, ?_, fun r hr2 => ?_⟩
          · show (s.turns ++ (s.turns ++ (s.turns ++ (s.turns ++ [])))).length ≤ _
            simp only [List.length_append, List.length_nil]
            omega
          · obtain ⟨l, hl2, hr3⟩ := List.mem_flatten.mp hr2
            rw [List.eq_of_mem_replicate hl2] at hr3
            exact key r hr3
        · refine ⟨s.turns.take k ++ [o] ++ s.turns.drop (k + 1), ?_, ?_, fun r hr2 => ?_⟩
          · rw [List.map_append, List.map_append, List.map_take, List.map_drop] <;> rfl
          · simp only [List.length_append, List.length_take, List.length_drop, List.length_singleton]
            omega
          · rcases List.mem_append.mp hr2 with hr2 | hr2
            · rcases List.mem_append.mp hr2 with hr2 | hr2
              · exact key r (List.mem_of_mem_take hr2)
              · rw [List.mem_singleton.mp hr2]; omega
            · exact key r (List.mem_of_mem_drop hr2)
        · refine ⟨s.turns.take k ++ [[]] ++ s.turns.drop k, ?_, ?_, fun r hr2 => ?_⟩
          · rw [List.map_append, List.map_append, List.map_take, List.map_drop] <;> rfl
          · simp only [List.length_append, List.length_take, List.length_drop, List.length_singleton]
            omega
          · rcases List.mem_append.mp hr2 with hr2 | hr2
            · rcases List.mem_append.mp hr2 with hr2 | hr2
              · exact key r (List.mem_of_mem_take hr2)
              · rw [List.mem_singleton.mp hr2]; exact Nat.zero_le _
            · exact key r (List.mem_of_mem_drop hr2)
      exact ⟨_, by walk_at "put", kd, cp, rd, ts, _, _, _, rfl, rfl, ⟨t1, t2⟩, rfl⟩
    · exact ifF (decide_eq_false h) (SM.nil ⟨kd, cp, rd, _, _, r8, _, rfl, rfl, ⟨by omega, fun r hr2 => by have := l2 r hr2; omega⟩, rfl⟩)
  rintro ρ M' ⟨kd, cp, rd, ts, md, r9, x, rfl, rfl, ⟨t1, t2⟩, rfl⟩
  -- mends
  refine SM.seq (S1.join (SpJ p (setupD s) (.int far) (.int way) (rowD o) fun _ _ _ ts md => (ts.length ≤ 4 * n + 8 ∧ ∀ r ∈ ts, r.length ≤ 4 * n + 8) ∧ md.length ≤ 4 * n + 8) (S1.ife (TM.eq hu ?_)) ?_)
  · walk_at "es"
    refine ⟨_, rfl, ?_⟩
    by_cases h : way = 4
    · refine ifT (decide_eq_true h) (SM.last (S1.set c (EM.ix ix_seq dIx (EM.lst (AM.cons (EM.var (by walk_at "cx") (by walk_at "at") (AM.cons (EM.repTA ?_))))))))
      walk_at "es"
      refine ⟨by show 1 ≤ sizeLine; omega, ?_⟩
      walk_at "es"
      refine ⟨by decide, by decide, by show 1 ≤ 1000; decide, AM.cons (EM.catA ?_)⟩
      walk_at "es"
      refine ⟨by rw [List.length_map, List.length_map]; omega, ?_⟩
      walk_at "es"
      refine ⟨by show 3 ≤ sizeLine; omega, e_taken c hr Gt ?_⟩
      walk_at "es"
      refine ⟨p, r9, 3, [], rfl, rfl, rfl, by decide, fun hv4 => atI_pick hv4.1 hv4.2 fun d hd => ?_⟩
      obtain ⟨md, rfl, t3⟩ : ∃ md : List Int, d = rowD md ∧ md.length ≤ 4 * n + 8 := by
        simp only [List.mem_cons, List.not_mem_nil, or_false] at hd
        rcases hd with rfl | rfl | rfl
        · exact ⟨o, rfl, by omega⟩
        · exact ⟨List.replicate 7 0, rfl, by rw [List.length_replicate]; omega⟩
        · refine ⟨s.mends ++ o, ?_, by rw [List.length_append]; omega⟩
          show D.tup _ = .tup _
          rw [List.map_append]
      exact ⟨_, by walk_at "put", kd, cp, rd, ts, md, _, _, rfl, rfl, ⟨t1, t2⟩, t3⟩
    · exact ifF (decide_eq_false h) (SM.nil ⟨kd, cp, rd, ts, _, r9, _, rfl, rfl, ⟨t1, t2⟩, by omega⟩)
  rintro ρ M' ⟨kd, cp, rd, ts, md, r10, x, rfl, rfl, ⟨t1, t2⟩, t3⟩
  refine SM.last (S1.ret ?_)
  walk_at "es"
  exact ⟨by show 5 ≤ sizeLine; omega, hq ⟨kd, cp, rd, ts, md⟩ r10 ⟨t1, t2, t3⟩⟩
end
/-! ### the errors of the text, told apart -/
structure ErrN (K : PySem.W.Frag) (mg : Str → Option Value) (Cs Cr Cx Ct CE : Addr) : Prop where
  gs : mg "BadSetup" = some (.ref Cs)
  gr : mg "BadStretch" = some (.ref Cr)
  gx : mg "BadText" = some (.ref Cx)
  gt : mg "BadTop" = some (.ref Ct)
  ge : mg "CountError" = some (.ref CE)
  zv : mg "ValueError" = none
  zi : mg "isinstance" = none
  n_ : PySem.W.specialIn K (.builtin "object.__class__") "__get__" = some (some (.builtin "getset_descriptor.__get__"))
  t_ : PySem.W.takesIn K (.builtin "object.__class__") = some true
structure KindE (K : PySem.W.Frag) (Cs Cr Cx Ct CE E : Addr) (b1 b2 b3 b4 : Bool) : Prop where
  isx : IsxC K E
  s : PySem.W.kitOne K (.ref E) (.ref Cs) = some b1
  r : PySem.W.kitOne K (.ref E) (.ref Cr) = some b2
  x : PySem.W.kitOne K (.ref E) (.ref Cx) = some b3
  t : PySem.W.kitOne K (.ref E) (.ref Ct) = some b4
  ve : PySem.W.kitOne K (.ref E) (.type "ValueError") = some true
  ce : PySem.W.exmOne K (.ref E) (.ref CE) = some true
section
variable {X : Cx} {N : List Str} {sc : Scope} {ρ : Rho} {M : Mem} {P : D → Mem → Prop} {pos p p1 p2 : Pos} {ad E Cs Cr Cx Ct CE : Addr} {oe : Obj} {d : Option Addr} {pn : List (Addr × Obj)} {b1 b2 b3 b4 : Bool} {n x : Str}
/-- isinstance(e, C), C one of the text's -/
theorem e_isx {C : Addr} {b : Bool} (c : Ctx0 (X.suite ad ((ad, oe) :: pn)) N sc) (EN : ErrN X.K X.mg Cs Cr Cx Ct CE) (T : IsxC X.K E) (hz : Zc (.ref E) d oe) (hv : ∃ vs, oe.data = .fields vs) (h1 : At N ρ n (.raw (.ref ad))) (hm : X.mg x = some (.ref C)) (hk : PySem.W.kitOne X.K (.ref E) (.ref C) = some b) (hd : dictAt X.K d M) (h : P (.bl b) M)
    (v1 : visB sc n = true := by decide +kernel) (d1 : (n == ("__debug__" : Str)) = false := by decide +kernel) (c1 : (n == ("__classdict__" : Str)) = false := by decide +kernel) (g1 : glB sc x = true := by decide +kernel) (d2 : (x == ("__debug__" : Str)) = false := by decide +kernel) (g2 : glB sc "isinstance" = true := by decide +kernel)
    (s1 : starEach [.Name n p1, .Name x p2] X.env = (false, eval (.Name n p1) X.env) :: starEach [.Name x p2] X.env := by rfl) (s2 : starEach [.Name x p2] X.env = [(false, eval (.Name x p2) X.env)] := by rfl) (s3 : (backTo pos (starEach [.Name x p2] X.env)).any (·.1) = false := by rfl) :
    EM (X.suite ad ((ad, oe) :: pn)) (.Call (.Name "isinstance" p) [.Name n p1, .Name x p2] [] pos) ρ M P :=
  EM.isx c EN.zi T EN.n_ EN.t_ hz hv (AM.cons (EM.var0 c h1 (AM.cons (EM.glob0 (v := .ref C) c hm rfl (fun B => .raw (.ref C)) (AM.nil ⟨.ref C, .ref C, b, rfl, fun u hu => hu, hk, hd, h⟩) g1 d2) s2) v1 d1 c1) s1) g2 s1 s3
theorem e_isve (c : Ctx0 (X.suite ad ((ad, oe) :: pn)) N sc) (EN : ErrN X.K X.mg Cs Cr Cx Ct CE) (k : KindE X.K Cs Cr Cx Ct CE E b1 b2 b3 b4) (hz : Zc (.ref E) d oe) (hv : ∃ vs, oe.data = .fields vs) (h1 : At N ρ n (.raw (.ref ad))) (hd : dictAt X.K d M) (h : P (.bl true) M)
    (v1 : visB sc n = true := by decide +kernel) (d1 : (n == ("__debug__" : Str)) = false := by decide +kernel) (c1 : (n == ("__classdict__" : Str)) = false := by decide +kernel) (g1 : glB sc "ValueError" = true := by decide +kernel) (g2 : glB sc "isinstance" = true := by decide +kernel)
    (s1 : starEach [.Name n p1, .Name "ValueError" p2] X.env = (false, eval (.Name n p1) X.env) :: starEach [.Name "ValueError" p2] X.env := by rfl) (s2 : starEach [.Name "ValueError" p2] X.env = [(false, eval (.Name "ValueError" p2) X.env)] := by rfl) (s3 : (backTo pos (starEach [.Name "ValueError" p2] X.env)).any (·.1) = false := by rfl) :
    EM (X.suite ad ((ad, oe) :: pn)) (.Call (.Name "isinstance" p) [.Name n p1, .Name "ValueError" p2] [] pos) ρ M P :=
  EM.isx c EN.zi k.isx EN.n_ EN.t_ hz hv (AM.cons (EM.var0 c h1 (AM.cons (EM.bltn0 (v := .ty "ValueError") c EN.zv PyProof.Rows.Boot.«ValueError» rfl (AM.nil ⟨.ty "ValueError", .type "ValueError", true, rfl, fun u hu => hu, k.ve, hd, h⟩) g1) s2) v1 d1 c1) s1) g2 s1 s3
end
/-! ### what is refused, told -/
abbrev nWord : List Str := ["_law_work", "e", "_law_kinds"]
theorem sc_word : FnScope nWord ["_law_work"] (defScope s__law_word) := ⟨rfl, rfl, rfl, by decide +kernel, rfl, by decide +kernel, by decide +kernel⟩
theorem dictAt_x {K : PySem.W.Frag} {y : Er} {M : Mem} : ∀ {d : Option Addr}, dictAt K d (xmem K d y ++ M)
  | none => fun dd e => nomatch e
  | some dd => fun dd' e => by cases e; exact ⟨0, _, rfl⟩
theorem words_ok {X : Cx} {k : Nat} {Cs Cr Cx Ct CE : Addr} (EN : ErrN X.K X.mg Cs Cr Cx Ct CE) (ks : KindE X.K Cs Cr Cx Ct CE Cs true false false false) (kt : KindE X.K Cs Cr Cx Ct CE Ct false false false true) (xs : XfC X.K Cs) (ns : PySem.W.findIn X.K (.ref Cs) "word" = some none)
    (Re : Er → Prop) (Nm : Prop) (Res : D → Prop) (hN : Nm → Res (.tup [.str "", .non])) (hR : ∀ y, Re y → (∃ z, y = badW Cs z ∧ Res (.tup [.str "setup", .str z])) ∨ (y = badT Ct ∧ Res (.tup [.str "top", .non]))) : Words X nWord s__law_word "_law_work" k Re Nm Res := by
  intro f Z M h1 h2 h3 h4 h5 hs hf c hr hcall
  rw [← h3, ← h4] at EN
  rw [← h3] at ks kt xs ns
  have hu := hr.units
  have hz : 10 ≤ sizeLine := by decide
  show SM Z _ [some (.raw (.ref f)), none, none] M _
  refine SM.seq (S1.try (cv := .ref CE) c hs hf (.inl EN.ge) (none_ nWord) (fun y M' => M' = M ∧ Re y) (fun pn xe c' => SMx.last (S1x.expr ((hcall pn xe _ _).to fun d M' h => ?_))) (fun y M' hR2 => ?_) (fun y M' ad oe d pn hR2 hz2 hv hd => ?_))
  · refine SM.last (S1.ret ?_)
    walk_at "es"
    exact ⟨by show 2 ≤ sizeLine; omega, h.1, hN h.2⟩
  · rcases hR y hR2.2 with ⟨z, rfl, _⟩ | ⟨rfl, _⟩
    · exact ks.ce
    · exact kt.ce
  · obtain ⟨rfl, hR2⟩ := hR2
    have c0 := c.suite ad ((ad, oe) :: pn)
    refine ⟨[none, some (.raw (.ref ad)), none], .there .here, ?_⟩
    rcases hR y hR2 with ⟨z, rfl, hP⟩ | ⟨rfl, hP⟩
    · obtain ⟨dd, rfl⟩ : ∃ dd, d = some dd := by
        cases d with
        | none => exact nomatch hd rfl
        | some dd => exact ⟨dd, rfl⟩
      refine SM.seq (S1.set0 c0 (EM.lst (AM.cons (e_isx c0 EN ks.isx hz2 hv (by walk_at "at") EN.gs ks.s dictAt_x (AM.cons (e_isx c0 EN ks.isx hz2 hv (by walk_at "at") EN.gr ks.r dictAt_x (AM.cons (e_isx c0 EN ks.isx hz2 hv (by walk_at "at") EN.gx ks.x dictAt_x (AM.cons (e_isx c0 EN ks.isx hz2 hv (by walk_at "at") EN.gt ks.t dictAt_x (AM.nil ⟨by show 4 ≤ sizeLine; omega, _, by walk_at "put", ?_⟩)))))))))))
      show SM (Z.suite ad ((ad, oe) :: pn)) _ [none, some (.raw (.ref ad)), some (.lst ([true, false, false, false].map D.bl))] _ _
      refine SM.seq (S1.ife (TM.w (WM.or (TM.not (TM.val (e_isve c0 EN ks hz2 hv ?_ dictAt_x ?_))))))
      · walk_at "at"
      refine ⟨_, rfl, ifF rfl (WM.or1 (TM.ne hu (EM.countB ?_)))⟩
      refine EM.var0 c0 (by walk_at "at") ?_
      refine ⟨⟨_, rfl⟩, ?_⟩
      walk_at "es"
      refine ⟨[true, false, false, false], true, rfl, rfl, ?_⟩
      walk_at "es"
      refine ⟨_, rfl, ifF rfl (SM.nil ?_)⟩
      refine SM.seq (S1.ife (TM.w (WM.or (TM.val (EM.ix ix_seq dIx ?_)))))
      refine EM.var0 c0 (by walk_at "at") ?_
      walk_at "es"
      refine ⟨.bl true, rfl, true, rfl, ifT rfl (ifT rfl ?_)⟩
      refine SM.last (S1.ret (EM.ife (TM.val (EM.ix ix_seq dIx ?_))))
      refine EM.var0 c0 (by walk_at "at") ?_
      walk_at "es"
      refine ⟨.bl true, rfl, true, rfl, ifT rfl (EM.less (EM.tup ?_))⟩
      walk_at "es"
      refine EM.xfld xs ns hz2 hv ?_
      refine EM.var0 c0 (by walk_at "at") ?_
      exact ⟨rfl, 0, _, .str z, rfl, rfl, AM.nil ⟨by show 2 ≤ sizeLine; omega, _, List.sublist_append_right _ _, rfl, hP⟩⟩
    · refine SM.seq (S1.set0 c0 (EM.lst (AM.cons (e_isx c0 EN kt.isx hz2 hv (by walk_at "at") EN.gs kt.s dictAt_x (AM.cons (e_isx c0 EN kt.isx hz2 hv (by walk_at "at") EN.gr kt.r dictAt_x (AM.cons (e_isx c0 EN kt.isx hz2 hv (by walk_at "at") EN.gx kt.x dictAt_x (AM.cons (e_isx c0 EN kt.isx hz2 hv (by walk_at "at") EN.gt kt.t dictAt_x (AM.nil ⟨by show 4 ≤ sizeLine; omega, _, by walk_at "put", ?_⟩)))))))))))
      show SM (Z.suite ad ((ad, oe) :: pn)) _ [none, some (.raw (.ref ad)), some (.lst ([false, false, false, true].map D.bl))] _ _
      refine SM.seq (S1.ife (TM.w (WM.or (TM.not (TM.val (e_isve c0 EN kt hz2 hv ?_ dictAt_x ?_))))))
      · walk_at "at"
      refine ⟨_, rfl, ifF rfl (WM.or1 (TM.ne hu (EM.countB ?_)))⟩
      refine EM.var0 c0 (by walk_at "at") ?_
      refine ⟨⟨_, rfl⟩, ?_⟩
      walk_at "es"
      refine ⟨[false, false, false, true], true, rfl, rfl, ?_⟩
      walk_at "es"
      refine ⟨_, rfl, ifF rfl (SM.nil ?_)⟩
      refine SM.seq (S1.ife (TM.w (WM.or (TM.val (EM.ix ix_seq dIx ?_)))))
      refine EM.var0 c0 (by walk_at "at") ?_
      walk_at "es"
      refine ⟨.bl false, rfl, false, rfl, ifF rfl (WM.or1 (TM.val (EM.ix ix_seq dIx ?_)))⟩
      refine EM.var0 c0 (by walk_at "at") ?_
      walk_at "es"
      refine ⟨.bl false, rfl, false, rfl, ifF rfl (SM.nil ?_)⟩
      refine SM.last (S1.ret (EM.ife (TM.val (EM.ix ix_seq dIx ?_))))
      refine EM.var0 c0 (by walk_at "at") ?_
      walk_at "es"
      refine ⟨.bl false, rfl, false, rfl, ifF rfl (EM.less (EM.tup ?_))⟩
      walk_at "es"
      exact ⟨by show 2 ≤ sizeLine; omega, _, List.sublist_append_right _ _, rfl, hP⟩
/-! ### what is handed a setup: three lambdas -/
def lamParams : Expr → Arguments
  | .Lambda a _ _ _ => a
  | _ => ⟨[], [], none, [], [], none, []⟩
def lamBody : Expr → Expr
  | .Lambda _ b _ _ => b
  | e => e
def lamScope : Expr → Scope
  | .Lambda _ _ s _ => s
  | _ => ⟨.function, [], false, false, []⟩
/-- the lambda of a statement of _law_works -/
def workE (i : Nat) : Expr := match (defBody s__law_works)[i]? with
  | some (.Assign _ (.List [l] _) _) => l
  | some (.Expr (.Call _ [l] _ _) _) => l
  | _ => .Constant .none 0 ⟨0, 0, 0, 0⟩
structure IsLam (e : Expr) (F : LF) : Prop where
  params : F.params = lamParams e
  body : F.body = lamBody e
  scope : F.scope = lamScope e
  dV : F.dV = .none
abbrev qWorks : Str := ("_law_works" : Str) ++ ".<locals>." ++ "<lambda>"
/-- a lambda whose cells hold a setup and a top -/
def WorkKn (K : PySem.W.Frag) (f : Addr) (F : LF) (s : Setup) (t : Int) : Hp → Prop := fun B => Made f F.c F B ∧ ∃ us, CellsB K F.cl ["_law_setup_here", "_law_top"] us [setupD s, .int t] B
def SWorks (K : PySem.W.Frag) (TW : Addr) : DA := fun ds M P => ∃ (s : Setup) (t : Int) (Fa : Hp → Prop), ds = [setupD s, .int t] ∧ M = [(TW, .dic (TabF qWorks Fa))] ∧
  ∀ (l f1 f2 f3 : Addr) (F1 F2 F3 : LF) (Fb : Hp → Prop), IsLam (workE 0) F1 → IsLam (workE 1) F2 → IsLam (workE 2) F3 → (∀ B, Fb B → WorkKn K f1 F1 s t B ∧ WorkKn K f2 F2 s t B ∧ WorkKn K f3 F3 s t B) →
    P (.raw (.ref l)) [(l, .lst [.raw (.ref f1), .raw (.ref f2), .raw (.ref f3)]), (TW, .dic (TabF qWorks Fb))]
theorem monoWorks (K : PySem.W.Frag) (TW : Addr) : DMono (SWorks K TW) := fun ds M P P' h ⟨s, t, Fa, e1, e2, q⟩ => ⟨s, t, Fa, e1, e2, fun l f1 f2 f3 F1 F2 F3 Fb a b c d => h _ _ (q l f1 f2 f3 F1 F2 F3 Fb a b c d)⟩
theorem lenWorks (K : PySem.W.Frag) (TW : Addr) : DLen (SWorks K TW) 2 := fun ds M P ⟨s, t, Fa, e1, _⟩ => by rw [e1] <;> rfl
abbrev nWorks : List Str := ["_law_setup_here", "_law_top", "_law_works_here"]
theorem sc_works : FnScope nWorks ["_law_setup_here", "_law_top"] (defScope s__law_works) := ⟨rfl, rfl, rfl, by decide +kernel, rfl, by decide +kernel, by decide +kernel⟩
instance {y1 y2 : Str} {scope : Scope} : Decidable (LamSc y1 y2 scope) := decidable_of_iff ((∀ y ∈ scope.names, y.2 = .free → y.1 = y1 ∨ y.1 = y2) ∧ (y1, NameKind.free) ∈ scope.names ∧ (y2, NameKind.free) ∈ scope.names) ⟨fun ⟨a, b, c⟩ => ⟨a, b, c⟩, fun ⟨a, b, c⟩ => ⟨a, b, c⟩⟩
theorem works_sc : ∀ i ∈ List.range 3, LamSc "_law_setup_here" "_law_top" (lamScope (workE i)) := by decide +kernel
section
variable {P : Program} {w : World} {K : PySem.W.Frag} {mg : Str → Option Value} {base : Heap} {f cW TW : Addr} {kV doc pm ct oc : Value} {an od : Option Addr} {osl : Array (Option Value)}
theorem ok_works (lk : K.lookup f = some ⟨oc, od, .func (PySem.W.fnOf "_law_works" "_law_works" (defArgs s__law_works) (defBody s__law_works) (defScope s__law_works) .none kV doc pm an (.ref cW) ct), osl⟩) (hcd : PySem.W.codeIn K (.ref cW) "_law_works" = true) (hkp : PySem.W.keepIn K (.ref f) = true) (hm : mg "_law_works" = some (.ref f))
    (hb : L2.Binds K (PySem.W.fnOf "_law_works" "_law_works" (defArgs s__law_works) (defBody s__law_works) (defScope s__law_works) .none kV doc pm an (.ref cW) ct) ["_law_setup_here", "_law_top"] []) (TB : LamX.TabB base mg cW TW) : Gd P w K mg base "_law_works" 1 ["_law_setup_here", "_law_top"] (SWorks K TW) := by
  refine ok_defE (y1 := "_law_setup_here") (y2 := "_law_top") (ini := [_, _, _]) lk hcd hkp sc_works hm hb (monoWorks K TW) (lenWorks K TW) rfl (by decide +kernel) (by decide +kernel) (by decide +kernel) ?_
  rintro X rfl rfl rfl rfl rfl hcode hsc hqual c hr ds M Q ⟨s, t, Fa, rfl, rfl, hq⟩
  have hqW : X.env.qual ++ "<lambda>" = qWorks := by rw [hqual] <;> rfl
  have hz : 10 ≤ sizeLine := by decide
  show SM X _ [some (setupD s), some (.int t), none] _ _
  refine SM.seq (S1.set c (EM.lstM (AM.cons (EM.mkLam (kt := 0) TB hcode (by rw [hqW] <;> rfl) (by rw [hsc]; decide +kernel) rfl fun f1 c1 => AM.nil ⟨by show 1 ≤ sizeLine; omega, fun l => ⟨_, by walk_at "put", ?_⟩⟩))))
  refine SM.seq (S1.expr (EM.append ?_))
  walk_at "es"
  refine ⟨⟨l, 0, _, rfl, rfl⟩, EM.mkLam (kt := 1) TB hcode rfl (by rw [hsc]; decide +kernel) rfl fun f2 c2 => ⟨l, 0, _, _, rfl, rfl, rfl, by show 1 < sizeLine; omega, ?_⟩⟩
  refine SM.last (S1.expr (EM.append ?_))
  walk_at "es"
  refine ⟨⟨l, 0, _, rfl, rfl⟩, EM.mkLam (kt := 1) TB hcode rfl (by rw [hsc]; decide +kernel) rfl fun f3 c3 => ⟨l, 0, _, _, rfl, rfl, rfl, by show 2 < sizeLine; omega, ?_⟩⟩
  walk_at "e"
  refine ⟨_, _, TW, 1, _, _, by walk_at "at", by walk_at "at", rfl, ?_⟩
  rw [hqW]
  refine hq l f1 f2 f3 ⟨qWorks, lamParams (workE 0), lamBody (workE 0), lamScope (workE 0), cloFrom X.env.cells (lamScope (workE 0)).names [], c1, .none⟩ ⟨qWorks, lamParams (workE 1), lamBody (workE 1), lamScope (workE 1), cloFrom X.env.cells (lamScope (workE 1)).names [], c2, .none⟩ ⟨qWorks, lamParams (workE 2), lamBody (workE 2), lamScope (workE 2), cloFrom X.env.cells (lamScope (workE 2)).names [], c3, .none⟩ _ ⟨rfl, rfl, rfl, rfl⟩ ⟨rfl, rfl, rfl, rfl⟩ ⟨rfl, rfl, rfl, rfl⟩ fun B hB => ?_
  obtain ⟨⟨⟨⟨_, m1⟩, m2⟩, m3⟩, kp⟩ := hB
  exact ⟨⟨m1, kp _ (works_sc 0 (by decide))⟩, ⟨m2, kp _ (works_sc 1 (by decide))⟩, ⟨m3, kp _ (works_sc 2 (by decide))⟩⟩
end
/-! ### the law -/
abbrev qLam : Str := ("law" : Str) ++ ".<locals>." ++ "<lambda>"
abbrev nLaw : List Str := ["_law_script", "_law_row_here", "_law_turn", "_law_good", "_law_setup_here", "_law_why_here", "_law_top", "_law_works_here", "_law_due", "_law_others", "_law_work", "_law_k"]
theorem sc_law : FnScope nLaw ["_law_script"] (defScope s_law) := ⟨rfl, rfl, rfl, by decide +kernel, rfl, by decide +kernel, by decide +kernel⟩
abbrev nLamW : List Str := ["_law_setup_here", "_law_top"]
theorem works_ns : ∀ i ∈ List.range 3, NdefX.nscB nLamW [] nLamW (lamScope (workE i)) = true := by decide +kernel
theorem whyS_ok {s : Setup} (v : Valid s) : whyS s = "" := by
  have hf : (s.turns.filter fun r => decide (r.length = 0) || !areC r s.copies) = [] := List.filter_eq_nil_iff.mpr fun r hr => by
    rw [(v.rows r hr).2, decide_eq_false fun e => (v.rows r hr).1 (List.eq_nil_of_length_eq_zero e)]
    exact Bool.false_ne_true
  unfold whyS
  rw [if_neg (fun h => h v.kind), if_neg (fun h => h v.copies), if_neg (fun h => h v.reader), if_neg (fun h => h v.turns), if_neg (fun h => h hf), if_neg (by rw [v.mends]; decide)]
theorem whyS_str (s : Setup) : PyData.strOk (whyS s) = true := by
  unfold whyS
  split; · decide +kernel
  split; · decide +kernel
  split; · decide +kernel
  split; · decide +kernel
  split; · decide +kernel
  split <;> decide +kernel
theorem okn_pair {a b : D} (ha : Okn 0 a) (hb : Okn 0 b) : Okn 1 (.tup [a, b]) := .tup fun d hd => by
  simp only [List.mem_cons, List.not_mem_nil, or_false] at hd
  rcases hd with rfl | rfl
  · exact ha
  · exact hb
/-- how a setup and a top are refused, by the first word -/
def RefW (Es Et : Addr) (s : Setup) : Er → Prop := fun y => (whyS s ≠ "" ∧ y = badW Es (whyS s)) ∨ (whyS s = "" ∧ y = badT Et)
theorem scalW {Es Et : Addr} {s : Setup} : ∀ y, RefW Es Et s y → ∀ p ∈ y.fs, p.2.scal = true := fun y h p hp => by
  rcases h with ⟨_, rfl⟩ | ⟨_, rfl⟩
  · rw [List.mem_singleton.mp hp] <;> rfl
  · cases hp
def RefS (Es : Addr) (s : Setup) : Er → Prop := fun y => whyS s ≠ "" ∧ y = badW Es (whyS s)
theorem scalS {Es : Addr} {s : Setup} : ∀ y, RefS Es s y → ∀ p ∈ y.fs, p.2.scal = true := fun y h p hp => by
  obtain ⟨_, rfl⟩ := h
  rw [List.mem_singleton.mp hp] <;> rfl
/-- the law's own lambdas -/
def lawStmt (i : Nat) : Stmt := match (defBody s_law).getD 1 (.Pass ⟨0, 0, 0, 0⟩) with
  | .For _ _ body _ _ => body.getD i (.Pass ⟨0, 0, 0, 0⟩)
  | _ => .Pass ⟨0, 0, 0, 0⟩
def lawE (i : Nat) : Expr := match lawStmt 8 with
  | .Assign _ (.List es _) _ => es.getD i (.Constant .none 0 ⟨0, 0, 0, 0⟩)
  | _ => .Constant .none 0 ⟨0, 0, 0, 0⟩
def lawK : Expr := match lawStmt 10 with
  | .If (.Compare (.ListComp _ [⟨_, _, [.Compare (.Call _ [l] _ _) _ _ _], _⟩] _ _) _ _ _) _ _ _ => l
  | _ => .Constant .none 0 ⟨0, 0, 0, 0⟩
def lawFK (X : Cx) (c' : Addr) : LF := ⟨qLam, lamParams lawK, lamBody lawK, lamScope lawK, cloFrom X.env.cells (lamScope lawK).names [], c', .none⟩
/-- the scope of the law's last comprehension -/
def lawCS : Scope := match lawStmt 10 with
  | .If (.Compare (.ListComp _ _ sc _) _ _ _) _ _ _ => sc
  | _ => lamScope lawK
/-- one of the law's lambdas, made -/
def lawF (X : Cx) (i : Nat) (c' : Addr) (dV : Value) : LF := ⟨qLam, lamParams (lawE i), lamBody (lawE i), lamScope (lawE i), cloFrom X.env.cells (lamScope (lawE i)).names [], c', dV⟩
section
variable {P : Program} {w : World} {K : PySem.W.Frag} {mg : Str → Option Value} {base : Heap} {f Cs Ct : Addr} {A : Around} {outer : List Env} {s' : Shared} {H' : Hp} {E : XK} {F : LF} {s gd : Setup}
theorem body_cost (hb : F.body = lamBody (lawE 0)) (hs : F.scope = lamScope (lawE 0)) (Gb : Gx P w K mg base "cost" 4 ["setup"] (SBad1 Cs)) (Gc : Gd P w K mg base "cost" 3 ["setup"] SCost) (hsh : Short s) (hr : Room 5 (A.deeper (NdefX.envF F.nf f s'.heap.objs.size))) :
    EMx (NdefX.ncx (L2.CX P w) P w K mg base ["_law_setup_here"] F.nf f A outer s' H' E) F.body [some (setupD s)] [] (fun y _ M' => M' = [] ∧ RefS Cs s y) (fun _ M' => M' = [] ∧ whyS s = "") := by
  have S : NdefX.NScope ["_law_setup_here"] [] ["_law_setup_here"] F.nf.scope := by
    show NdefX.NScope _ _ _ F.scope
    rw [hs]
    exact NdefX.nscope_by (by decide +kernel)
  have c : Ctx (NdefX.ncx (L2.CX P w) P w K mg base ["_law_setup_here"] F.nf f A outer s' H' E) ["_law_setup_here"] (lamScope (lawE 0)) := Ctx.ncx S hs
  have hr2 : Room 5 (NdefX.ncx (L2.CX P w) P w K mg base ["_law_setup_here"] F.nf f A outer s' H' E).A := hr
  rw [hb]
  by_cases hw : whyS s = ""
  · refine EMx.of (EM.call c hr2 Gc (AM.cons (EM.var c (by walk_at "at") (AM.nil ?_))))
    exact ⟨s, rfl, whyS_valid hw, rfl, hw⟩
  · refine EMx.call c hr2 Gb (AM.cons (EM.var c (by walk_at "at") (AM.nil ?_)))
    exact ⟨s, rfl, hsh, hw, rfl, rfl, hw, rfl⟩
theorem body_written (hb : F.body = lamBody (lawE 1)) (hs : F.scope = lamScope (lawE 1)) (Gb : Gx P w K mg base "written" 4 ["setup"] (SBad1 Cs)) (Gc : Gd P w K mg base "written" 3 ["setup"] SWritten) (hsh : Short s) (hr : Room 5 (A.deeper (NdefX.envF F.nf f s'.heap.objs.size))) :
    EMx (NdefX.ncx (L2.CX P w) P w K mg base ["_law_a", "_law_setup_here"] F.nf f A outer s' H' E) F.body [some (.int 0), some (setupD s)] [] (fun y _ M' => M' = [] ∧ RefS Cs s y) (fun _ M' => M' = [] ∧ whyS s = "") := by
  have S : NdefX.NScope ["_law_a", "_law_setup_here"] ["_law_a"] ["_law_setup_here"] F.nf.scope := by
    show NdefX.NScope _ _ _ F.scope
    rw [hs]
    exact NdefX.nscope_by (by decide +kernel)
  have c : Ctx (NdefX.ncx (L2.CX P w) P w K mg base ["_law_a", "_law_setup_here"] F.nf f A outer s' H' E) ["_law_a", "_law_setup_here"] (lamScope (lawE 1)) := Ctx.ncx S hs
  have hr2 : Room 5 (NdefX.ncx (L2.CX P w) P w K mg base ["_law_a", "_law_setup_here"] F.nf f A outer s' H' E).A := hr
  rw [hb]
  by_cases hw : whyS s = ""
  · refine EMx.of (EM.call c hr2 Gc (AM.cons (EM.var c (by walk_at "at") (AM.nil ?_))))
    exact ⟨s, rfl, whyS_valid hw, rfl, hw⟩
  · refine EMx.call c hr2 Gb (AM.cons (EM.var c (by walk_at "at") (AM.nil ?_)))
    exact ⟨s, rfl, hsh, hw, rfl, rfl, hw, rfl⟩
theorem body_held (hb : F.body = lamBody (lawE 2)) (hs : F.scope = lamScope (lawE 2)) (Gh : Gx P w K mg base "held" 4 ["setups", "top"] (SBadL Cs Ct)) (hgd : Valid gd) (hsh : Short s) (hw : whyS s ≠ "") (hr : Room 5 (A.deeper (NdefX.envF F.nf f s'.heap.objs.size))) :
    EMx (NdefX.ncx (L2.CX P w) P w K mg base ["_law_b", "_law_good", "_law_setup_here"] F.nf f A outer s' H' E) F.body [some (.int 0), some (setupD gd), some (setupD s)] [] (fun y _ M' => M' = [] ∧ RefS Cs s y) (fun _ M' => M' = [] ∧ whyS s = "") := by
  have S : NdefX.NScope ["_law_b", "_law_good", "_law_setup_here"] ["_law_b"] ["_law_good", "_law_setup_here"] F.nf.scope := by
    show NdefX.NScope _ _ _ F.scope
    rw [hs]
    exact NdefX.nscope_by (by decide +kernel)
  have c : Ctx (NdefX.ncx (L2.CX P w) P w K mg base ["_law_b", "_law_good", "_law_setup_here"] F.nf f A outer s' H' E) ["_law_b", "_law_good", "_law_setup_here"] (lamScope (lawE 2)) := Ctx.ncx S hs
  have hr2 : Room 5 (NdefX.ncx (L2.CX P w) P w K mg base ["_law_b", "_law_good", "_law_setup_here"] F.nf f A outer s' H' E).A := hr
  have hz : 10 ≤ sizeLine := by decide
  rw [hb]
  refine EMx.call c hr2 Gh (AM.cons (EM.lst (AM.cons (EM.var c (by walk_at "at") (AM.cons (EM.var c (by walk_at "at") (AM.nil ⟨by show 2 ≤ sizeLine; omega, AM.cons (EM.int (AM.nil ?_))⟩)))))))
  refine ⟨[gd, s], 1, rfl, fun r hr3 => ?_, fun i r hi hpre hw2 => ?_, fun h => absurd (h s (List.mem_cons_of_mem _ List.mem_cons_self)) hw⟩
  · simp only [List.mem_cons, List.not_mem_nil, or_false] at hr3
    rcases hr3 with rfl | rfl
    · exact lens_short (lens_valid hgd) (by decide)
    · exact hsh
  · match i, hi with
    | 0, hi =>
      cases hi
      exact absurd (whyS_ok hgd) hw2
    | 1, hi =>
      cases hi
      exact ⟨rfl, rfl, hw2, rfl⟩
theorem body_good (hb : F.body = lamBody lawK) (hs : F.scope = lamScope lawK) (Gr : Gd P w K mg base "run" 5 ["setup", "top", "stretches"] SRun) (hgd : Valid gd) {k : Int} (hk : 1 ≤ k ∧ k ≤ 4) (hr : Room 5 (A.deeper (NdefX.envF F.nf f s'.heap.objs.size))) :
    EMx (NdefX.ncx (L2.CX P w) P w K mg base ["_law_good", "_law_k"] F.nf f A outer s' H' E) F.body [some (setupD gd), some (.int k)] [] (fun y _ M' => M' = [] ∧ False) (fun _ M' => M' = [] ∧ True) := by
  have S : NdefX.NScope ["_law_good", "_law_k"] [] ["_law_good", "_law_k"] F.nf.scope := by
    show NdefX.NScope _ _ _ F.scope
    rw [hs]
    exact NdefX.nscope_by (by decide +kernel)
  have c : Ctx (NdefX.ncx (L2.CX P w) P w K mg base ["_law_good", "_law_k"] F.nf f A outer s' H' E) ["_law_good", "_law_k"] (lamScope lawK) := Ctx.ncx S hs
  have hr2 : Room 5 (NdefX.ncx (L2.CX P w) P w K mg base ["_law_good", "_law_k"] F.nf f A outer s' H' E).A := hr
  have hz : 10 ≤ sizeLine := by decide
  rw [hb]
  refine EMx.of (EM.less (EM.call c hr2 Gr (AM.cons (EM.var c (by walk_at "at") (AM.cons (EM.var c (by walk_at "at") (AM.cons (EM.lst (AM.nil ⟨by show 0 ≤ sizeLine; omega, AM.nil ?_⟩)))))))))
  exact ⟨gd, k, [], rfl, hgd, hk, trivial, Nat.zero_le _, fun a => ⟨[], List.nil_sublist _, rfl, trivial⟩⟩
end
theorem named {X : Cx} {rest : List Stmt} {ρ : Rho} {M : Mem} {O : Out} (h : ∀ M', M' = M → SM X rest ρ M' O) : SM X rest ρ M O := h M rfl
section
variable {P : Program} {w : World} {K : PySem.W.Frag} {mg : Str → Option Value} {base : Heap} {f g Cs Cr Cx Ct CE cL TL TW : Addr} {fdw : FuncData} {kV doc pm ct oc : Value} {an od : Option Addr} {osl : Array (Option Value)}
/-- the bodies of the three lambdas of _law_works -/
theorem body_works (Gr : Gx P w K mg base "run" 4 ["setup", "top", "stretches"] (SBad3 Cs Ct)) (Gj : Gx P w K mg base "judged" 4 ["setup", "top"] (SBad2 Cs Ct)) (Gh : Gx P w K mg base "held" 4 ["setups", "top"] (SBadL Cs Ct))
    {s : Setup} {t : Int} (hs : Short s) (ht : ¬ okTop t) {i : Nat} (hi : i < 3) {F : LF} (hF : IsLam (workE i) F) {f : Addr} {A : Around} {outer : List Env} {s' : Shared} {H' : Hp} {E : XK} (hr : Room 5 (A.deeper (NdefX.envF F.nf f s'.heap.objs.size))) :
    EMx (NdefX.ncx (L2.CX P w) P w K mg base nLamW F.nf f A outer s' H' E) F.body (capR nLamW [] ([setupD s, .int t].map some)) [] (fun y _ M' => M' = [] ∧ RefW Cs Ct s y) (fun _ M' => M' = [] ∧ False) := by
  have S : NdefX.NScope nLamW [] nLamW F.nf.scope := by
    show NdefX.NScope nLamW [] nLamW F.scope
    rw [hF.scope]
    exact NdefX.nscope_by (works_ns i (List.mem_range.mpr hi))
  have c : Ctx (NdefX.ncx (L2.CX P w) P w K mg base nLamW F.nf f A outer s' H' E) nLamW (lamScope (workE i)) := Ctx.ncx S hF.scope
  have hr2 : Room 5 (NdefX.ncx (L2.CX P w) P w K mg base nLamW F.nf f A outer s' H' E).A := hr
  have hz : 10 ≤ sizeLine := by decide
  rw [hF.body]
  show EMx _ _ [some (setupD s), some (.int t)] [] _ _
  have h3 : i = 0 ∨ i = 1 ∨ i = 2 := by omega
  rcases h3 with rfl | rfl | rfl
  · refine EMx.call c hr2 Gr (AM.cons (EM.var c (by walk_at "at") (AM.cons (EM.var c (by walk_at "at") (AM.cons (EM.lst (AM.cons (EM.tup ?_))))))))
    walk_at "es"
    refine ⟨by show 2 ≤ sizeLine; omega, AM.nil ⟨by show 1 ≤ sizeLine; omega, AM.nil ?_⟩⟩
    exact ⟨s, t, _, rfl, hs, fun h => ⟨rfl, rfl, .inl ⟨h, rfl⟩⟩, fun h => ⟨ht, rfl, rfl, .inr ⟨h, rfl⟩⟩⟩
  · refine EMx.call c hr2 Gj (AM.cons (EM.var c (by walk_at "at") (AM.cons (EM.var c (by walk_at "at") (AM.nil ?_)))))
    exact ⟨s, t, rfl, hs, fun h => ⟨rfl, rfl, .inl ⟨h, rfl⟩⟩, fun h => ⟨ht, rfl, rfl, .inr ⟨h, rfl⟩⟩⟩
  · refine EMx.call c hr2 Gh (AM.cons (EM.lst (AM.cons (EM.var c (by walk_at "at") (AM.nil ⟨by show 1 ≤ sizeLine; omega, AM.cons (EM.var c (by walk_at "at") (AM.nil ?_))⟩)))))
    refine ⟨[s], t, rfl, fun r hr3 => by rw [List.mem_singleton.mp hr3]; exact hs, fun i r hi2 _ hw => ?_, fun h => ⟨ht, rfl, rfl, .inr ⟨h s List.mem_cons_self, rfl⟩⟩⟩
    have e : r = s := by simpa using List.mem_of_getElem? hi2
    subst e
    exact ⟨rfl, rfl, .inl ⟨hw, rfl⟩⟩
theorem law_fr : ∀ i ∈ List.range 3, ∀ y ∈ (lamScope (lawE i)).names, y.2 = .free → (defScope s_law).names.lookup y.1 = some .cell ∨ (defScope s_law).names.lookup y.1 = some .free := by decide +kernel
theorem lawK_fr {env : Env} (hsc : env.scope = defScope s_law) : ∀ y ∈ (lamScope lawK).names, y.2 = .free → (relabel lawCS env).names.lookup y.1 = some .cell ∨ (relabel lawCS env).names.lookup y.1 = some .free := by
  have e : (relabel lawCS env).names = lawCS.names.map fun (n, k) => if (k == .free && (defScope s_law).kind == .function && (defScope s_law).names.lookup n == some .cell) then (n, .cell) else (n, k) := by
    unfold relabel Env.kindOf
    rw [hsc]
  rw [e]
  decide +kernel
theorem bind_works {i : Nat} (hi : i < 3) {F : LF} (hF : IsLam (workE i) F) (doc pm ctv : Value) : bindArgs (PySem.W.kdv_fn "<lambda>" F.qual F.params (.expr F.body) F.scope F.cl F.dV doc pm (.ref F.c) ctv) ⟨[], []⟩ = pure [] := by
  rw [hF.params, hF.dV]
  have h3 : i = 0 ∨ i = 1 ∨ i = 2 := by omega
  rcases h3 with rfl | rfl | rfl <;> rfl
theorem ok_law (lk : K.lookup f = some ⟨oc, od, .func (PySem.W.fnOf "law" "law" (defArgs s_law) (defBody s_law) (defScope s_law) .none kV doc pm an (.ref cL) ct), osl⟩) (hcd : PySem.W.codeIn K (.ref cL) "law" = true) (TB : LamX.TabB base mg cL TL) (T : Bn mg)
    (EN : ErrN K mg Cs Cr Cx Ct CE) (ks : KindE K Cs Cr Cx Ct CE Cs true false false false) (kt : KindE K Cs Cr Cx Ct CE Ct false false false true) (xs : XfC K Cs) (nsw : PySem.W.findIn K (.ref Cs) "word" = some none)
    (Gt : Gd P w K mg base "_law_taken" 1 ["_law_row_here", "_law_many"] STaken) (Gs : Gd P w K mg base "_law_setup" 3 ["_law_row_here"] SLawSetup) (Go1 : Gd P w K mg base "_law_spoilt" 2 ["_law_row_here", "_law_setup_here"] (SSpoil 6)) (Go2 : Gd P w K mg base "_law_spoilt" 2 ["_law_row_here", "_law_setup_here"] (SSpoil 32)) (Gy : Gd P w K mg base "_law_why" 1 ["_law_setup_here"] SWhy)
    (Gw : Gd P w K mg base "_law_works" 1 ["_law_setup_here", "_law_top"] (SWorks K TW)) (Gr : Gx P w K mg base "run" 4 ["setup", "top", "stretches"] (SBad3 Cs Ct)) (Gj : Gx P w K mg base "judged" 4 ["setup", "top"] (SBad2 Cs Ct)) (Gh : Gx P w K mg base "held" 4 ["setups", "top"] (SBadL Cs Ct)) (Gcb : Gx P w K mg base "cost" 4 ["setup"] (SBad1 Cs)) (Gwb : Gx P w K mg base "written" 4 ["setup"] (SBad1 Cs))
    (Gc : Gd P w K mg base "cost" 3 ["setup"] SCost) (Gwr : Gd P w K mg base "written" 3 ["setup"] SWritten) (Grn : Gd P w K mg base "run" 5 ["setup", "top", "stretches"] SRun)
    (Fw : Fun K "_law_word" "_law_word" s__law_word g fdw) (hmw : mg "_law_word" = some (.ref g)) (hbw : L2.Binds K fdw ["_law_work"] []) :
    FnOk P w K mg base CX0 8 f (PySem.W.fnOf "law" "law" (defArgs s_law) (defBody s_law) (defScope s_law) .none kV doc pm an (.ref cL) ct) ["_law_script"] (spD K (SLaw2 TL TW qLam qWorks)) := by
  refine ok_fnL lk hcd sc_law (lenLaw2 TL TW qLam qWorks) ?_
  rintro X rfl rfl rfl rfl rfl hcode hsc hq c hr ds M Q ⟨ns, rfl, rfl, hQ⟩
  have hu := hr.units
  have h2z : 100 ≤ sizeLine := by decide
  have hqL : X.env.qual ++ "<lambda>" = qLam := by rw [hq] <;> rfl
  show SM X _ [some (.scr ns), none, none, none, none, none, none, none, none, none, none, none] _ _
  refine SM.seq (S1.set c (EM.lstM ?_))
  walk_at "es"
  refine ⟨by show 3 ≤ sizeLine; omega, fun p => ⟨_, by walk_at "put", ?_⟩⟩
  refine SM.seq (S1.forr c (i_range1 c T ?_))
  walk_at "e"
  refine ⟨_, rfl, ⟨by decide, by decide⟩, fun i ρ' M' => (∃ (r : Row) (FaL FaW : Hp → Prop), M' = [(p, r.mo), (TL, .dic (TabF qLam FaL)), (TW, .dic (TabF qWorks FaW))]) ∧ ∃ x1 x2 x3 x4 x5 x6 x7 x8 x9 x10, ρ' = [some (.scr ns), some (.raw (.ref p)), x1, x2, x3, x4, x5, x6, x7, x8, x9, x10], ⟨⟨⟨ns, 0, 0⟩, _, _, rfl⟩, _, _, _, _, _, _, _, _, _, _, rfl⟩, ?_, ?_⟩
  rotate_left
  · rintro ρ' M' ⟨⟨r, FaL, FaW, rfl⟩, x1, x2, x3, x4, x5, x6, x7, x8, x9, x10, rfl⟩
    refine SM.last (S1.ret ?_)
    walk_at "e"
    exact hQ _
  rintro i d ρ' M' hi ⟨⟨r, FaL, FaW, rfl⟩, x1, x2, x3, x4, x5, x6, x7, x8, x9, x10, rfl⟩
  refine ⟨_, _, GM.name c (by walk_at "put"), ?_⟩
  -- good, setup
  refine SM.seq (S1.set c (EM.callF c hr Gs ?_))
  walk_at "es"
  refine ⟨[(p, r.mo)], _, rfl, p, r, rfl, rfl, fun gd r1 v => ⟨_, by walk_at "put", ?_⟩⟩
  refine SM.seq (S1.set c (EM.callF c hr Go1 ?_))
  walk_at "es"
  refine ⟨[(p, r1.mo)], _, rfl, p, r1, gd, rfl, rfl, lens_valid v, fun s1 r2 hl1 => ⟨_, by walk_at "put", ?_⟩⟩
  refine SM.seq (S1.join (fun ρ M' => ∃ (s : Setup) (r : Row), Lens 136 s ∧ M' = [(p, r.mo), (TL, .dic (TabF qLam FaL)), (TW, .dic (TabF qWorks FaW))] ∧ ρ = [some (.scr ns), some (.raw (.ref p)), some d, some (setupD gd), some (setupD s), x4, x5, x6, x7, x8, x9, x10]) (S1.ife (TM.eq hu (e_taken c hr Gt ?_))) ?_)
  · walk_at "es"
    refine ⟨p, r2, 3, _, rfl, rfl, rfl, by decide, fun hv => ?_⟩
    generalize (taken r2 3).1 = v3
    generalize (taken r2 3).2 = r3
    walk_at "es"
    refine ⟨_, rfl, ?_⟩
    by_cases h : v3 = 2
    · refine ifT (decide_eq_true h) (SM.last (S1.set c (EM.callF c hr Go2 ?_)))
      walk_at "es"
      exact ⟨[(p, r3.mo)], _, rfl, p, r3, s1, rfl, rfl, hl1, fun s2 r4 hl2 => ⟨_, by walk_at "put", s2, r4, hl2, rfl, rfl⟩⟩
    · exact ifF (decide_eq_false h) (SM.nil ⟨s1, r3, ⟨by have := hl1.turns; omega, fun x hx => by have := hl1.rows x hx; omega, by have := hl1.mends; omega⟩, rfl, rfl⟩)
  rintro ρ M' ⟨s, r3, hls, rfl, rfl⟩
  have hsh := lens_short hls (by decide)
  -- why
  refine SM.seq (S1.set c (EM.call c hr Gy ?_))
  walk_at "es"
  refine ⟨s, rfl, hsh, _, by walk_at "put", ?_⟩
  -- top
  refine SM.seq (S1.set c (EM.to (P := fun d M' => ∃ (t : Int) (r : Row), d = .int t ∧ ¬ okTop t ∧ M' = [(p, r.mo), (TL, .dic (TabF qLam FaL)), (TW, .dic (TabF qWorks FaW))]) (EM.ix ix_seq dIx (EM.lst ?_)) ?_))
  · walk_at "es"
    refine ⟨trivial, e_taken c hr Gt ?_⟩
    walk_at "es"
    refine ⟨p, r3, 1000, _, rfl, rfl, rfl, by decide, fun hv1 => ?_⟩
    generalize (taken r3 1000).1 = v1 at hv1
    generalize (taken r3 1000).2 = r4
    walk_at "es"
    refine ⟨trivial, ?_⟩
    refine AM.cons (EM.add ?_)
    walk_at "e"
    refine e_taken c hr Gt ?_
    walk_at "es"
    refine ⟨p, r4, 1000, _, rfl, rfl, rfl, by decide, fun hv2 => ?_⟩
    generalize (taken r4 1000).1 = v2 at hv2
    generalize (taken r4 1000).2 = r5
    walk_at "es"
    refine ⟨by show 4 ≤ sizeLine; omega, e_taken c hr Gt ?_⟩
    walk_at "es"
    refine ⟨p, r5, 4, _, rfl, rfl, rfl, by decide, fun hv4 => atI_pick hv4.1 hv4.2 fun d2 hd2 => ?_⟩
    generalize (taken r5 4).2 = r6
    simp only [List.mem_cons, List.not_mem_nil, or_false] at hd2
    rcases hd2 with rfl | rfl | rfl | rfl
    · exact ⟨_, r6, rfl, fun h => by have := h.1; omega, rfl⟩
    · exact ⟨_, r6, rfl, fun h => by have := h.2; omega, rfl⟩
    · exact ⟨_, r6, rfl, fun h => by have := h.1; omega, rfl⟩
    · exact ⟨_, r6, rfl, fun h => by have := h.2; omega, rfl⟩
  rintro d2 M2 ⟨t, r4, rfl, htop, rfl⟩
  refine ⟨_, by walk_at "put", ?_⟩
  -- works
  refine SM.perm (M' := [(TW, .dic (TabF qWorks FaW)), (p, r4.mo), (TL, .dic (TabF qLam FaL))]) ?_ (List.perm_append_comm (l₁ := [(TW, MO.dic (TabF qWorks FaW))]) (l₂ := [(p, r4.mo), (TL, MO.dic (TabF qLam FaL))]))
  refine SM.seq (S1.set c (EM.fz (EM.callF c hr Gw ?_)))
  walk_at "es"
  refine ⟨[(TW, _)], _, rfl, s, t, FaW, rfl, rfl, fun l f1 f2 f3 F1 F2 F3 Fw0 i1 i2 i3 kn => ⟨l, 0, _, rfl, rfl, _, by walk_at "put", ?_⟩⟩
  refine SM.perm (M' := [(p, r4.mo), (TL, .dic (TabF qLam FaL)), (TW, .dic (TabF qWorks Fw0))]) ?_ (List.perm_append_comm (l₁ := [(p, r4.mo), (TL, MO.dic (TabF qLam FaL))]) (l₂ := [(TW, MO.dic (TabF qWorks Fw0))]))
  show SM X _ [some (.scr ns), some (.raw (.ref p)), some d, some (setupD gd), some (setupD s), some (.str (whyS s)), some (.int t), some (.lst [.raw (.ref f1), .raw (.ref f2), .raw (.ref f3)]), x7, x8, x9, x10] _ _
  -- due
  have hres : ∀ {a b : D} {e : D}, a.scal = true → b.scal = true → e = .tup [a, b] → ∃ l, e = .tup l ∧ ∀ z ∈ l, z.scal = true := fun {a b e} ha hb he => ⟨_, he, fun z hz => by
    simp only [List.mem_cons, List.not_mem_nil, or_false] at hz
    rcases hz with rfl | rfl
    · exact ha
    · exact hb⟩
  obtain ⟨due, hdue, okd, sc1, isd⟩ : ∃ due : List D, L2.atI [D.tup [.str "setup", .str (whyS s)], D.tup [.str "top", .non]] (if decide (whyS s = Str.ofString "") = true then 1 else 0) = some (.tup due) ∧ Okn 1 (.tup due) ∧ (∃ l, D.tup due = .tup l ∧ ∀ z ∈ l, z.scal = true) ∧ ∀ y, RefW Cs Ct s y → (∃ z, y = badW Cs z ∧ D.tup [.str "setup", .str z] = .tup due) ∨ (y = badT Ct ∧ D.tup [.str "top", .non] = .tup due) := by
    by_cases hw : whyS s = Str.ofString ""
    · refine ⟨[.str "top", .non], by rw [decide_eq_true hw, if_pos rfl] <;> rfl, okn_pair (.str (by decide +kernel)) .non, hres rfl rfl rfl, fun y hy => ?_⟩
      rcases hy with ⟨h, _⟩ | ⟨_, e⟩
      · exact absurd hw h
      · exact .inr ⟨e, rfl⟩
    · refine ⟨[.str "setup", .str (whyS s)], by rw [decide_eq_false hw, if_neg Bool.false_ne_true] <;> rfl, okn_pair (.str (by decide +kernel)) (.str (whyS_str s)), hres rfl rfl rfl, fun y hy => ?_⟩
      rcases hy with ⟨_, e⟩ | ⟨h, _⟩
      · exact .inl ⟨_, e, rfl⟩
      · exact absurd h hw
  refine SM.seq (S1.set c (EM.ix ix_seq dIx (EM.lst (AM.cons (EM.tup ?_)))))
  walk_at "es"
  refine ⟨by show 2 ≤ sizeLine; omega, ?_⟩
  walk_at "es"
  refine ⟨by show 2 ≤ sizeLine; omega, AM.nil ⟨by show 2 ≤ sizeLine; omega, e_int c T (EM.eq hu ?_)⟩⟩
  walk_at "es"
  refine ⟨_, hdue, _, by walk_at "put", ?_⟩
  -- refused
  have hW : ∀ j ∈ [0, 1, 2], j < 3 ∧ ∃ F : LF, IsLam (workE j) F ∧ ∀ B, Fw0 B → WorkKn X.K ([f1, f2, f3].getD j f1) F s t B := fun j hj => by
    simp only [List.mem_cons, List.not_mem_nil, or_false] at hj
    rcases hj with rfl | rfl | rfl
    · exact ⟨by decide, F1, i1, fun B hB => (kn B hB).1⟩
    · exact ⟨by decide, F2, i2, fun B hB => (kn B hB).2.1⟩
    · exact ⟨by decide, F3, i3, fun B hB => (kn B hB).2.2⟩
  refine SM.seq (S1.ife (TM.ne hu ?_))
  refine EM.lcFil (α := Nat) c (by walk_at "wp") (IW.list ?_)
  walk_at "e"
  refine ⟨_, rfl, [0, 1, 2], fun j => .raw (.ref ([f1, f2, f3].getD j f1)), fun j => .raw (.ref ([f1, f2, f3].getD j f1)), fun _ => false, rfl, by decide, fun j hj => ⟨_, by walk_at "put", fun sb H0 C1 cl fp => ?_, fun h => (nomatch h)⟩, ?_⟩
  · obtain ⟨hj3, F, hF, hkn⟩ := hW j hj
    refine TM.ne hu (EM.word (Ng := []) (a := "") (X := Bk X _ sb H0 C1 cl fp) (by walk_at "cx") Fw hmw (fun e => e = .tup due) (fun e he => by rw [he]; exact sc1) (EM.var (by walk_at "cx") (by walk_at "at") ⟨_, rfl, fun e he => ?_, fun F0 pins σ B H s' I hρ hx Qv hqv => ?_⟩))
    · subst he
      walk_at "es"
      exact ⟨_, _, .same _, .same _, okd.ok, okd.ok, _, rfl, by rw [eqv_refl okd] <;> rfl, rfl⟩
    · exact word_dead (X := Bk X _ sb H0 C1 cl fp) (k := 5) (kt := 2) (F := F) (c' := F.c) (fr := nLamW) (Nl := nLamW) (ps := []) (vs := []) (ds := []) (es := [setupD s, .int t]) Fw sc_word hbw (hr.mono (by decide)) rfl
        (fun B hB => ⟨(hkn B hB).1, .inl ⟨rfl, rfl, bind_works hj3 hF⟩, (hkn B hB).2⟩) rfl (by rw [hF.scope]; exact NdefX.nscope_by (works_ns j (List.mem_range.mpr hj3))) (fun _ => .nil) (RefW Cs Ct s) False scalW
        (fun A outer s' H' E hr3 => body_works Gr Gj Gh hsh htop hj3 hF hr3) (fun e => e = .tup due) (words_ok (X := Bk X _ sb H0 C1 cl fp) EN ks kt xs nsw _ _ _ (fun h => h.elim) isd) rfl (by decide +kernel) (by decide +kernel) (by decide +kernel) F0 pins σ B H s' I hx Qv hqv
  refine EM.lst ?_
  walk_at "e"
  rw [List.filter_eq_nil_iff.mpr (by simp)]
  refine ⟨by decide, .lst [], .lst [], .same _, .same _, Okn.ok (n := 1) .nilL, Okn.ok (n := 1) .nilL, _, rfl, ?_⟩
  rw [eqv_nilL]
  refine ifF rfl (SM.nil ?_)
  -- others
  refine SM.seq (S1.set c (EM.lst (AM.cons (EM.mkLam (kt := 1) TB hcode (by rw [hqL] <;> rfl) (by rw [hsc]; decide +kernel) rfl fun g1 c1 => AM.cons (EM.mkLamD (kt := 1) TB hcode rfl (by rw [hsc]; decide +kernel) rfl rfl fun g2 c2 t2 => AM.cons (EM.mkLamD (kt := 1) TB hcode rfl (by rw [hsc]; decide +kernel) rfl rfl fun g3 c3 t3 => AM.nil ⟨by show 3 ≤ sizeLine; omega, _, by walk_at "put", ?_⟩))))))
  refine named fun MM hMM0 => ?_
  obtain ⟨Fb, hMM, fb⟩ : ∃ Fb : Hp → Prop, MM = [(p, r4.mo), (TL, .dic (TabF qLam Fb)), (TW, .dic (TabF qWorks Fw0))] ∧ ∀ B, Fb B → Dl.Made g1 c1 (lawF X 0 c1 .none) B ∧ (Dl.Made g2 c2 (lawF X 1 c2 (.ref t2)) B ∧ B t2 = some (.tup [.int 0])) ∧ (Dl.Made g3 c3 (lawF X 2 c3 (.ref t3)) B ∧ B t3 = some (.tup [.int 0])) := by
    rw [hqL] at hMM0
    exact ⟨_, hMM0, fun B hB => ⟨hB.1.1.2, hB.1.2, hB.2⟩⟩
  clear hMM0
  show SM X _ [some (.scr ns), some (.raw (.ref p)), some d, some (setupD gd), some (setupD s), some (.str (whyS s)), some (.int t), some (.lst [.raw (.ref f1), .raw (.ref f2), .raw (.ref f3)]), some (.tup due), some (.lst [.raw (.ref g1), .raw (.ref g2), .raw (.ref g3)]), x9, x10] _ _
  obtain ⟨due2, hdue2, okd2, sc2, isd2, isn2⟩ : ∃ due : List D, L2.atI [D.tup [.str "setup", .str (whyS s)], D.tup [.str "", .non]] (if decide (whyS s = Str.ofString "") = true then 1 else 0) = some (.tup due) ∧ Okn 1 (.tup due) ∧ (∃ l, D.tup due = .tup l ∧ ∀ z ∈ l, z.scal = true) ∧ (∀ y, RefS Cs s y → (∃ z, y = badW Cs z ∧ D.tup [.str "setup", .str z] = .tup due) ∨ (y = badT Ct ∧ D.tup [.str "top", .non] = .tup due)) ∧ (whyS s = "" → D.tup [.str "", .non] = .tup due) := by
    by_cases hw : whyS s = Str.ofString ""
    · exact ⟨[.str "", .non], by rw [decide_eq_true hw, if_pos rfl] <;> rfl, okn_pair (.str (by decide +kernel)) .non, hres rfl rfl rfl, fun y hy => absurd hw hy.1, fun _ => rfl⟩
    · exact ⟨[.str "setup", .str (whyS s)], by rw [decide_eq_false hw, if_neg Bool.false_ne_true] <;> rfl, okn_pair (.str (by decide +kernel)) (.str (whyS_str s)), hres rfl rfl rfl, fun y hy => .inl ⟨_, hy.2, rfl⟩, fun h => absurd h hw⟩
  refine SM.seq (S1.join (fun ρ M' => M' = MM ∧ ∃ y, ρ = [some (.scr ns), some (.raw (.ref p)), some d, some (setupD gd), some (setupD s), some (.str (whyS s)), some (.int t), some (.lst [.raw (.ref f1), .raw (.ref f2), .raw (.ref f3)]), some (.tup due), some (.lst [.raw (.ref g1), .raw (.ref g2), .raw (.ref g3)]), y, x10]) (S1.forr c (IW.list (EM.sliceHi ?_))) ?_)
  · walk_at "e"
    refine EM.add ?_
    walk_at "e"
    refine e_int c T (EM.ne hu ?_)
    walk_at "es"
    obtain ⟨n, hn, hn3⟩ : ∃ n : Nat, (2 + if (!decide (whyS s = Str.ofString "")) = true then (1 : Int) else 0) = (n : Int) ∧ (n = 2 ∨ (n = 3 ∧ whyS s ≠ "")) := by
      by_cases hw : whyS s = Str.ofString ""
      · exact ⟨2, by rw [decide_eq_true hw] <;> rfl, .inl rfl⟩
      · exact ⟨3, by rw [decide_eq_false hw] <;> rfl, .inr ⟨rfl, hw⟩⟩
    refine ⟨_, n, rfl, by rw [hn], _, rfl, fun j ρ' M' => M' = MM ∧ ∃ y, ρ' = [some (.scr ns), some (.raw (.ref p)), some d, some (setupD gd), some (setupD s), some (.str (whyS s)), some (.int t), some (.lst [.raw (.ref f1), .raw (.ref f2), .raw (.ref f3)]), some (.tup due), some (.lst [.raw (.ref g1), .raw (.ref g2), .raw (.ref g3)]), y, x10], ⟨rfl, _, rfl⟩, ?_, fun ρ' M' h => h⟩
    rintro j dd ρ' M' hj ⟨rfl, y, rfl⟩
    obtain ⟨g0, rfl, hg0⟩ : ∃ g0 : Addr, dd = .raw (.ref g0) ∧ (g0 = g1 ∨ g0 = g2 ∨ (g0 = g3 ∧ whyS s ≠ "")) := by
      rcases hn3 with rfl | ⟨rfl, hw⟩
      · match j, hj with
        | 0, hj => cases hj; exact ⟨g1, rfl, .inl rfl⟩
        | 1, hj => cases hj; exact ⟨g2, rfl, .inr (.inl rfl)⟩
      · match j, hj with
        | 0, hj => cases hj; exact ⟨g1, rfl, .inl rfl⟩
        | 1, hj => cases hj; exact ⟨g2, rfl, .inr (.inl rfl)⟩
        | 2, hj => cases hj; exact ⟨g3, rfl, .inr (.inr ⟨rfl, hw⟩)⟩
    refine ⟨_, _, GM.name c (by walk_at "put"), ?_⟩
    refine SM.last (S1.ife (TM.ne hu (EM.word (Ng := []) (a := "") c Fw hmw (fun e => e = .tup due2) (fun e he => by rw [he]; exact sc2) (EM.var c (by walk_at "at") ⟨_, rfl, fun e he => ?_, fun F0 pins σ B H s' I hρ hx Qv hqv => ?_⟩))))
    · subst he
      refine EM.ix ix_seq dIx (EM.lst (AM.cons (EM.tup ?_)))
      walk_at "es"
      refine ⟨by show 2 ≤ sizeLine; omega, ?_⟩
      walk_at "es"
      refine ⟨by show 2 ≤ sizeLine; omega, AM.nil ⟨by show 2 ≤ sizeLine; omega, e_int c T (EM.eq hu ?_)⟩⟩
      walk_at "es"
      exact ⟨_, hdue2, _, _, .same _, .same _, okd2.ok, okd2.ok, _, rfl, ifF (by rw [eqv_refl okd2] <;> rfl) (SM.nil ⟨rfl, _, rfl⟩)⟩
    · rcases hg0 with rfl | rfl | ⟨rfl, hw⟩
      · exact word_live (X := X) (k := 5) (kt := 1) (c' := c1) (F := lawF X 0 c1 .none) (Fa := Fb) (fr := ["_law_setup_here"]) (js := [4]) (Nl := ["_law_setup_here"]) (ps := []) (vs := []) (ds := []) Fw sc_word hbw (hr.mono (by decide)) (T := TL) (q := qLam) (by rw [hMM] <;> rfl) (fun B hB => ⟨(fb B hB).1, .inl ⟨rfl, rfl, fun _ _ _ => rfl⟩⟩) rfl rfl (by rw [hsc]; exact law_fr 0 (by decide)) (show ∀ y ∈ (["_law_setup_here"] : List Str), (y, NameKind.free) ∈ (lamScope (lawE 0)).names by decide +kernel) (by show [X.N[4]?] = _; rw [c.nm] <;> rfl) (NdefX.nscope_by (show NdefX.nscB ["_law_setup_here"] [] ["_law_setup_here"] (lamScope (lawE 0)) = true by decide +kernel)) (fun _ => .nil) (RefS Cs s) (whyS s = "") scalS
          (fun A outer s' H' E hr3 => body_cost rfl rfl Gcb Gc hsh hr3) (fun e => e = .tup due2) (words_ok EN ks kt xs nsw _ _ _ isn2 isd2) rfl (by decide +kernel) (by decide +kernel) (by decide +kernel) F0 pins σ B H s' I hρ hx Qv hqv
      · exact word_live (X := X) (k := 5) (kt := 1) (c' := c2) (F := lawF X 1 c2 (.ref t2)) (Fa := Fb) (fr := ["_law_setup_here"]) (js := [4]) (Nl := ["_law_a", "_law_setup_here"]) (ps := ["_law_a"]) (vs := [.int 0]) (ds := [.int 0]) Fw sc_word hbw (hr.mono (by decide)) (T := TL) (q := qLam) (by rw [hMM] <;> rfl) (fun B hB => ⟨(fb B hB).2.1.1, .inr ⟨_, _, t2, rfl, rfl, rfl, (fb B hB).2.1.2, fun _ _ _ => ⟨_, rfl, fun _ => rfl⟩⟩⟩) rfl rfl (by rw [hsc]; exact law_fr 1 (by decide)) (show ∀ y ∈ (["_law_setup_here"] : List Str), (y, NameKind.free) ∈ (lamScope (lawE 1)).names by decide +kernel) (by show [X.N[4]?] = _; rw [c.nm] <;> rfl) (NdefX.nscope_by (show NdefX.nscB ["_law_a", "_law_setup_here"] ["_law_a"] ["_law_setup_here"] (lamScope (lawE 1)) = true by decide +kernel)) (fun _ => .cons (.int 0) .nil) (RefS Cs s) (whyS s = "") scalS
          (fun A outer s' H' E hr3 => body_written rfl rfl Gwb Gwr hsh hr3) (fun e => e = .tup due2) (words_ok EN ks kt xs nsw _ _ _ isn2 isd2) rfl (by decide +kernel) (by decide +kernel) (by decide +kernel) F0 pins σ B H s' I hρ hx Qv hqv
      · exact word_live (X := X) (k := 5) (kt := 1) (c' := c3) (F := lawF X 2 c3 (.ref t3)) (Fa := Fb) (fr := ["_law_good", "_law_setup_here"]) (js := [3, 4]) (Nl := ["_law_b", "_law_good", "_law_setup_here"]) (ps := ["_law_b"]) (vs := [.int 0]) (ds := [.int 0]) Fw sc_word hbw (hr.mono (by decide)) (T := TL) (q := qLam) (by rw [hMM] <;> rfl) (fun B hB => ⟨(fb B hB).2.2.1, .inr ⟨_, _, t3, rfl, rfl, rfl, (fb B hB).2.2.2, fun _ _ _ => ⟨_, rfl, fun _ => rfl⟩⟩⟩) rfl rfl (by rw [hsc]; exact law_fr 2 (by decide)) (show ∀ y ∈ (["_law_good", "_law_setup_here"] : List Str), (y, NameKind.free) ∈ (lamScope (lawE 2)).names by decide +kernel) (by show [X.N[3]?, X.N[4]?] = _; rw [c.nm] <;> rfl) (NdefX.nscope_by (show NdefX.nscB ["_law_b", "_law_good", "_law_setup_here"] ["_law_b"] ["_law_good", "_law_setup_here"] (lamScope (lawE 2)) = true by decide +kernel)) (fun _ => .cons (.int 0) .nil) (RefS Cs s) (whyS s = "") scalS
          (fun A outer s' H' E hr3 => body_held rfl rfl Gh v hsh hw hr3) (fun e => e = .tup due2) (words_ok EN ks kt xs nsw _ _ _ isn2 isd2) rfl (by decide +kernel) (by decide +kernel) (by decide +kernel) F0 pins σ B H s' I hρ hx Qv hqv
  rintro ρ M' ⟨rfl, y, rfl⟩
  subst hMM
  refine SM.last (S1.ife (TM.ne hu ?_))
  refine EM.lcFil (α := Nat) c (by walk_at "wp") (i_range2 c T (EM.int (EM.int ?_)))
  refine ⟨_, _, rfl, rfl, ⟨by decide, by decide, by decide, by decide⟩, List.range 4, fun k => .int (1 + (k : Int)), fun k => .int (1 + (k : Int)), fun _ => false, rfl, by decide, fun j hj => ⟨_, by walk_at "put", fun sb H0 C1 cl fp => ?_, fun h => (nomatch h)⟩, ?_⟩
  · have hj4 : j < 4 := List.mem_range.mp hj
    refine TM.ne hu (EM.weakT (EM.word (Ng := []) (a := "") (X := Bk X _ sb H0 C1 cl fp) (by walk_at "cx") Fw hmw (fun e => e = .tup [.str "", .non]) (fun e he => hres rfl rfl he) (EM.mkLam (X := Bk X _ sb H0 C1 cl fp) (kt := 1) TB hcode (by show _ = some (TL, MO.dic (TabF (X.env.qual ++ "<lambda>") _)); rw [hqL] <;> rfl) ?_ rfl fun g4 c4 => ⟨_, rfl, fun e he => ?_, fun F0 pins σ B H s' I hρ hx Qv hqv => ?_⟩)))
    · exact lawK_fr hsc
    · subst he
      refine ⟨1, TL, TabF qLam Fb, TabF (X.env.qual ++ "<lambda>") _, rfl, fun B o h => ?_, ?_⟩
      · rw [hqL] at h
        exact ⟨h.1, h.2.1⟩
      walk_at "es"
      have okE : Okn 1 (.tup [.str "", .non]) := okn_pair (.str (by decide +kernel)) .non
      exact ⟨by show 2 ≤ sizeLine; omega, _, _, .same _, .same _, okE.ok, okE.ok, _, rfl, by rw [eqv_refl okE] <;> rfl, rfl⟩
    · have hk4 : 1 ≤ 1 + (j : Int) ∧ 1 + (j : Int) ≤ 4 := by omega
      exact word_live (X := Bk X lawCS sb H0 C1 cl fp) (k := 5) (kt := 1) (c' := c4) (F := lawFK (Bk X lawCS sb H0 C1 cl fp) c4) (Fa := fun B => Fb B ∧ Dl.Made g4 c4 (lawFK (Bk X lawCS sb H0 C1 cl fp) c4) B) (fr := ["_law_good", "_law_k"]) (js := [3, 11]) (Nl := ["_law_good", "_law_k"]) (ps := []) (vs := []) (ds := []) Fw sc_word hbw (hr.mono (by decide)) (T := TL) (q := qLam) (by
          show ([(p, r4.mo), (TL, MO.dic (TabF qLam Fb)), (TW, MO.dic (TabF qWorks Fw0))].set 1 (TL, MO.dic (TabF (X.env.qual ++ "<lambda>") fun B => Fb B ∧ Dl.Made g4 c4 ⟨X.env.qual ++ "<lambda>", lamParams lawK, lamBody lawK, lamScope lawK, cloFrom cl (lamScope lawK).names [], c4, .none⟩ B)))[1]? = _
          rw [hqL]
          rfl) (fun B hB => ⟨hB.2, .inl ⟨rfl, rfl, fun _ _ _ => rfl⟩⟩) rfl rfl (lawK_fr hsc)
        (show ∀ y ∈ (["_law_good", "_law_k"] : List Str), (y, NameKind.free) ∈ (lamScope lawK).names by decide +kernel) (by show [X.N[3]?, X.N[11]?] = _; rw [c.nm] <;> rfl) (NdefX.nscope_by (show NdefX.nscB ["_law_good", "_law_k"] [] ["_law_good", "_law_k"] (lamScope lawK) = true by decide +kernel)) (fun _ => .nil) (fun _ => False) True (fun _ h => h.elim)
        (fun A outer s' H' E hr3 => body_good rfl rfl Grn v hk4 hr3) (fun e => e = .tup [.str "", .non]) (words_ok (X := Bk X lawCS sb H0 C1 cl fp) EN ks kt xs nsw _ _ _ (fun _ => rfl) (fun _ h => h.elim)) rfl (by decide +kernel) (by decide +kernel) (by decide +kernel) F0 pins σ B H s' I hρ hx Qv hqv
  refine EM.lst ?_
  walk_at "e"
  rw [List.filter_eq_nil_iff.mpr (by simp)]
  refine ⟨by decide, .lst [], .lst [], .same _, .same _, Okn.ok (n := 1) .nilL, Okn.ok (n := 1) .nilL, _, rfl, ?_⟩
  rw [eqv_nilL]
  exact ifF rfl (SM.nil ⟨⟨_, _, _, rfl⟩, _, _, _, _, _, _, _, _, _, _, rfl⟩)
end
/-! ### what the top has written -/
theorem all_mk {l : PySem.W.OpenLaw} {w : World} {K : PySem.W.Frag} {h : Heap} {mg : Str → Option Value} {fa : Addr} (X : K.In h) (G : h.Ns mainGlobals mg) (hfa : mg "law" = some (.ref fa))
    {f0 f1 f2 f3 f4 f5 f6 f7 f8 f9 f10 f11 f12 f13 f14 f15 f16 f17 f18 f19 f20 f21 f22 f23 f24 f25 : Addr} {od0 an0 od1 an1 od2 an2 od3 an3 od4 an4 od5 an5 od6 an6 od7 an7 od8 an8 od9 an9 od10 an10 od11 an11 od12 an12 od13 an13 od14 an14 od15 an15 od16 an16 od17 an17 od18 an18 od19 an19 od20 an20 od21 an21 od22 an22 od23 an23 od24 an24 od25 an25 : Option Addr} {sl0 sl1 sl2 sl3 sl4 sl5 sl6 sl7 sl8 sl9 sl10 sl11 sl12 sl13 sl14 sl15 sl16 sl17 sl18 sl19 sl20 sl21 sl22 sl23 sl24 sl25 : Array (Option Value)} {oc0 kV0 dc0 pm0 cd0 ct0 oc1 kV1 dc1 pm1 cd1 ct1 oc2 kV2 dc2 pm2 cd2 ct2 oc3 kV3 dc3 pm3 cd3 ct3 oc4 kV4 dc4 pm4 cd4 ct4 oc5 kV5 dc5 pm5 cd5 ct5 oc6 kV6 dc6 pm6 cd6 ct6 oc7 kV7 dc7 pm7 cd7 ct7 oc8 kV8 dc8 pm8 cd8 ct8 oc9 kV9 dc9 pm9 cd9 ct9 oc10 kV10 dc10 pm10 cd10 ct10 oc11 kV11 dc11 pm11 cd11 ct11 oc12 kV12 dc12 pm12 cd12 ct12 oc13 kV13 dc13 pm13 cd13 ct13 oc14 kV14 dc14 pm14 cd14 ct14 oc15 kV15 dc15 pm15 cd15 ct15 oc16 kV16 dc16 pm16 cd16 ct16 oc17 kV17 dc17 pm17 cd17 ct17 oc18 kV18 dc18 pm18 cd18 ct18 oc19 kV19 dc19 pm19 cd19 ct19 oc20 kV20 dc20 pm20 cd20 ct20 oc21 kV21 dc21 pm21 cd21 ct21 oc22 kV22 dc22 pm22 cd22 ct22 oc23 kV23 dc23 pm23 cd23 ct23 oc24 kV24 dc24 pm24 ct24 oc25 kV25 dc25 pm25 ct25 : Value}
    {t_MOST_COPIES : Tok} (n_MOST_COPIES : PySem.W.nsIn K mainGlobals "MOST_COPIES" = some (some (.int (3) t_MOST_COPIES)))
    {t_MOST_TURNS : Tok} (n_MOST_TURNS : PySem.W.nsIn K mainGlobals "MOST_TURNS" = some (some (.int (3) t_MOST_TURNS)))
    {t_MOST_WRITES : Tok} (n_MOST_WRITES : PySem.W.nsIn K mainGlobals "MOST_WRITES" = some (some (.int (6) t_MOST_WRITES)))
    {t_MOST_TOP : Tok} (n_MOST_TOP : PySem.W.nsIn K mainGlobals "MOST_TOP" = some (some (.int (4) t_MOST_TOP)))
    {t_BROKEN : Tok} (n_BROKEN : PySem.W.nsIn K mainGlobals "BROKEN" = some (some (.int (-1) t_BROKEN)))
    {t_MOST_STRETCHES : Tok} (n_MOST_STRETCHES : PySem.W.nsIn K mainGlobals "MOST_STRETCHES" = some (some (.int (40) t_MOST_STRETCHES)))
    {t_SIX : Tok} (n_SIX : PySem.W.nsIn K mainGlobals "SIX" = some (some (.int (6) t_SIX)))
    {t_KINDS_0 t_KINDS_1 : Tok} {a_KINDS : Addr} {od_KINDS : Option Addr} {sl_KINDS : Array (Option Value)} {n0_KINDS : Nat} (n_KINDS : PySem.W.nsIn K mainGlobals "KINDS" = some (some (.ref a_KINDS))) (q_KINDS : K.lookup a_KINDS = some ⟨.type "tuple", od_KINDS, .seq #[.str "checked" t_KINDS_0, .str "plain" t_KINDS_1] n0_KINDS, sl_KINDS⟩)
    {t_READERS_0 t_READERS_1 t_READERS_2 : Tok} {a_READERS : Addr} {od_READERS : Option Addr} {sl_READERS : Array (Option Value)} {n0_READERS : Nat} (n_READERS : PySem.W.nsIn K mainGlobals "READERS" = some (some (.ref a_READERS))) (q_READERS : K.lookup a_READERS = some ⟨.type "tuple", od_READERS, .seq #[.str "most" t_READERS_0, .str "least" t_READERS_1, .str "middle" t_READERS_2] n0_READERS, sl_READERS⟩)
    {C_Counter : Addr} (n_Counter : PySem.W.nsIn K mainGlobals "Counter" = some (some (.ref C_Counter))) (pg_Counter : PySem.W.plainGet K C_Counter Str.empty = true) (hd_Counter : PySem.W.hasDictIn K C_Counter = true) (po_Counter : PySem.W.plainOver K C_Counter = true) (sa_Counter : PySem.W.findIn K (.ref C_Counter) "__setattr__" = some (some (.builtin "object.__setattr__"))) (mk_Counter : PySem.W.makesIn K C_Counter = true) (kc_Counter : PySem.W.keepIn K (.ref C_Counter) = true) (na_Counter_setup : PySem.W.findIn K (.ref C_Counter) "setup" = some none) (na_Counter_top : PySem.W.findIn K (.ref C_Counter) "top" = some none) (na_Counter_cells : PySem.W.findIn K (.ref C_Counter) "cells" = some none) (na_Counter_told : PySem.W.findIn K (.ref C_Counter) "told" = some none) (na_Counter_begun : PySem.W.findIn K (.ref C_Counter) "begun" = some none)
    {C_CountError : Addr} (n_CountError : PySem.W.nsIn K mainGlobals "CountError" = some (some (.ref C_CountError))) (rd_CE : PySem.W.readsIn K C_CountError (.type "type") = true) (gs_CE : PySem.W.specialIn K (.ref C_CountError) "__getattribute__" = some (some (.builtin "type.__getattribute__"))) (at_CE : PySem.W.findCls K (.ref C_CountError) (.type "type") "__init__" = some (.val (.builtin "ValueError.__init__")))
    {C_BadSetup : Addr} (n_BadSetup : PySem.W.nsIn K mainGlobals "BadSetup" = some (some (.ref C_BadSetup)))
    {C_BadStretch : Addr} (n_BadStretch : PySem.W.nsIn K mainGlobals "BadStretch" = some (some (.ref C_BadStretch)))
    {C_BadText : Addr} (n_BadText : PySem.W.nsIn K mainGlobals "BadText" = some (some (.ref C_BadText)))
    {C_BadTop : Addr} (n_BadTop : PySem.W.nsIn K mainGlobals "BadTop" = some (some (.ref C_BadTop))) (z_ValueError : PySem.W.nsIn K mainGlobals "ValueError" = some none) (n_oc : PySem.W.specialIn K (.builtin "object.__class__") "__get__" = some (some (.builtin "getset_descriptor.__get__"))) (t_oc : PySem.W.takesIn K (.builtin "object.__class__") = some true)
    {nm_BadSetup q_BadSetup : Str} {N_BadSetup : Addr} {bs_BadSetup : List Value} {sn_BadSetup : List Str} {sub_BadSetup : List Value} {ab_BadSetup : Bool} {col_BadSetup : Option Bool} {dd_BadSetup : Option Addr} {k0_BadSetup k1_BadSetup k2_BadSetup k3_BadSetup k5_BadSetup : Option Value} (xc_BadSetup : K.lookup C_BadSetup = some (excClassObj nm_BadSetup q_BadSetup C_BadSetup N_BadSetup bs_BadSetup [.ref C_CountError, .type "ValueError", .type "Exception", .type "BaseException", .type "object"] true sn_BadSetup sub_BadSetup ab_BadSetup col_BadSetup dd_BadSetup k0_BadSetup k1_BadSetup k2_BadSetup k3_BadSetup k5_BadSetup "ValueError.__new__")) (sa_BadSetup : PySem.W.findIn K (.ref C_BadSetup) "__setattr__" = some (some (.builtin "object.__setattr__"))) (ex_BadSetup : PySem.W.subIn K (.ref C_BadSetup) (.type "BaseException") = some true) (ty_BadSetup : PySem.W.typeIn K (.ref C_BadSetup) = some (.type "type")) (kc_BadSetup : PySem.W.keepIn K (.ref C_BadSetup) = true) (nf_BadSetup : PySem.W.findIn K (.ref C_BadSetup) "word" = some none) (hd_BadSetup : PySem.W.hasDictIn K C_BadSetup = true)
    (xb_BadTop : PySem.W.excIn K C_BadTop [.type "ValueError", .type "Exception", .type "BaseException", .type "object"] "ValueError.__new__" = true) (ex_BadTop : PySem.W.subIn K (.ref C_BadTop) (.type "BaseException") = some true) (ty_BadTop : PySem.W.typeIn K (.ref C_BadTop) = some (.type "type")) (kc_BadTop : PySem.W.keepIn K (.ref C_BadTop) = true)
    (ic_BadSetup : (PySem.W.clsIn K C_BadSetup).isSome = true) (ig_BadSetup : PySem.W.findIn K (.ref C_BadSetup) "__getattribute__" = some (some (.builtin "BaseException.__getattribute__"))) (ik_BadSetup : PySem.W.findIn K (.ref C_BadSetup) "__getattr__" = some none) (ia_BadSetup : PySem.W.findIn K (.ref C_BadSetup) "__class__" = some (some (.builtin "object.__class__"))) (im_BadSetup : PySem.W.mroIn K C_BadSetup (.type "object") = some true) (qBadSetup_BadSetup : PySem.W.kitOne K (.ref C_BadSetup) (.ref C_BadSetup) = some true) (qBadStretch_BadSetup : PySem.W.kitOne K (.ref C_BadSetup) (.ref C_BadStretch) = some false) (qBadText_BadSetup : PySem.W.kitOne K (.ref C_BadSetup) (.ref C_BadText) = some false) (qBadTop_BadSetup : PySem.W.kitOne K (.ref C_BadSetup) (.ref C_BadTop) = some false) (qv_BadSetup : PySem.W.kitOne K (.ref C_BadSetup) (.type "ValueError") = some true) (qe_BadSetup : PySem.W.exmOne K (.ref C_BadSetup) (.ref C_CountError) = some true)
    (ic_BadTop : (PySem.W.clsIn K C_BadTop).isSome = true) (ig_BadTop : PySem.W.findIn K (.ref C_BadTop) "__getattribute__" = some (some (.builtin "BaseException.__getattribute__"))) (ik_BadTop : PySem.W.findIn K (.ref C_BadTop) "__getattr__" = some none) (ia_BadTop : PySem.W.findIn K (.ref C_BadTop) "__class__" = some (some (.builtin "object.__class__"))) (im_BadTop : PySem.W.mroIn K C_BadTop (.type "object") = some true) (qBadSetup_BadTop : PySem.W.kitOne K (.ref C_BadTop) (.ref C_BadSetup) = some false) (qBadStretch_BadTop : PySem.W.kitOne K (.ref C_BadTop) (.ref C_BadStretch) = some false) (qBadText_BadTop : PySem.W.kitOne K (.ref C_BadTop) (.ref C_BadText) = some false) (qBadTop_BadTop : PySem.W.kitOne K (.ref C_BadTop) (.ref C_BadTop) = some true) (qv_BadTop : PySem.W.kitOne K (.ref C_BadTop) (.type "ValueError") = some true) (qe_BadTop : PySem.W.exmOne K (.ref C_BadTop) (.ref C_CountError) = some true)
    (a0 : PySem.W.nsIn K mainGlobals "read_as" = some (some (.ref f0))) (l0 : K.lookup f0 = some ⟨oc0, od0, .func (PySem.W.fnOf "read_as" "read_as" (defArgs s_read_as) (defBody s_read_as) (defScope s_read_as) .none kV0 dc0 pm0 an0 cd0 ct0), sl0⟩) (c0 : PySem.W.codeIn K cd0 "read_as" = true) (k0 : PySem.W.keepIn K (.ref f0) = true)
    (a1 : PySem.W.nsIn K mainGlobals "are_copies" = some (some (.ref f1))) (l1 : K.lookup f1 = some ⟨oc1, od1, .func (PySem.W.fnOf "are_copies" "are_copies" (defArgs s_are_copies) (defBody s_are_copies) (defScope s_are_copies) .none kV1 dc1 pm1 an1 cd1 ct1), sl1⟩) (c1 : PySem.W.codeIn K cd1 "are_copies" = true) (k1 : PySem.W.keepIn K (.ref f1) = true)
    (a2 : PySem.W.nsIn K mainGlobals "need_setup" = some (some (.ref f2))) (l2 : K.lookup f2 = some ⟨oc2, od2, .func (PySem.W.fnOf "need_setup" "need_setup" (defArgs s_need_setup) (defBody s_need_setup) (defScope s_need_setup) .none kV2 dc2 pm2 an2 cd2 ct2), sl2⟩) (c2 : PySem.W.codeIn K cd2 "need_setup" = true) (k2 : PySem.W.keepIn K (.ref f2) = true)
    (a3 : PySem.W.nsIn K mainGlobals "need_top" = some (some (.ref f3))) (l3 : K.lookup f3 = some ⟨oc3, od3, .func (PySem.W.fnOf "need_top" "need_top" (defArgs s_need_top) (defBody s_need_top) (defScope s_need_top) .none kV3 dc3 pm3 an3 cd3 ct3), sl3⟩) (c3 : PySem.W.codeIn K cd3 "need_top" = true) (k3 : PySem.W.keepIn K (.ref f3) = true)
    (a4 : PySem.W.nsIn K mainGlobals "row_for" = some (some (.ref f4))) (l4 : K.lookup f4 = some ⟨oc4, od4, .func (PySem.W.fnOf "row_for" "row_for" (defArgs s_row_for) (defBody s_row_for) (defScope s_row_for) .none kV4 dc4 pm4 an4 cd4 ct4), sl4⟩) (c4 : PySem.W.codeIn K cd4 "row_for" = true) (k4 : PySem.W.keepIn K (.ref f4) = true)
    (a5 : PySem.W.findIn K (.ref C_Counter) "__init__" = some (some (.ref f5))) (i5 : PySem.W.isFn K (.ref f5) = true) (t5 : PySem.W.typeIn K (.ref f5) = some (.type "function")) (l5 : K.lookup f5 = some ⟨oc5, od5, .func (PySem.W.fnOf "__init__" "Counter.__init__" (defArgs s_Counter___init__) (defBody s_Counter___init__) (defScope s_Counter___init__) .none kV5 dc5 pm5 an5 cd5 ct5), sl5⟩) (c5 : PySem.W.codeIn K cd5 "Counter.__init__" = true) (k5 : PySem.W.keepIn K (.ref f5) = true)
    (a6 : PySem.W.findIn K (.ref C_Counter) "read" = some (some (.ref f6))) (i6 : PySem.W.isFn K (.ref f6) = true) (t6 : PySem.W.typeIn K (.ref f6) = some (.type "function")) (l6 : K.lookup f6 = some ⟨oc6, od6, .func (PySem.W.fnOf "read" "Counter.read" (defArgs s_Counter_read) (defBody s_Counter_read) (defScope s_Counter_read) .none kV6 dc6 pm6 an6 cd6 ct6), sl6⟩) (c6 : PySem.W.codeIn K cd6 "Counter.read" = true) (k6 : PySem.W.keepIn K (.ref f6) = true)
    (a7 : PySem.W.findIn K (.ref C_Counter) "writes" = some (some (.ref f7))) (i7 : PySem.W.isFn K (.ref f7) = true) (t7 : PySem.W.typeIn K (.ref f7) = some (.type "function")) (l7 : K.lookup f7 = some ⟨oc7, od7, .func (PySem.W.fnOf "writes" "Counter.writes" (defArgs s_Counter_writes) (defBody s_Counter_writes) (defScope s_Counter_writes) .none kV7 dc7 pm7 an7 cd7 ct7), sl7⟩) (c7 : PySem.W.codeIn K cd7 "Counter.writes" = true) (k7 : PySem.W.keepIn K (.ref f7) = true)
    (a8 : PySem.W.findIn K (.ref C_Counter) "power" = some (some (.ref f8))) (i8 : PySem.W.isFn K (.ref f8) = true) (t8 : PySem.W.typeIn K (.ref f8) = some (.type "function")) (l8 : K.lookup f8 = some ⟨oc8, od8, .func (PySem.W.fnOf "power" "Counter.power" (defArgs s_Counter_power) (defBody s_Counter_power) (defScope s_Counter_power) .none kV8 dc8 pm8 an8 cd8 ct8), sl8⟩) (c8 : PySem.W.codeIn K cd8 "Counter.power" = true) (k8 : PySem.W.keepIn K (.ref f8) = true)
    (a9 : PySem.W.findIn K (.ref C_Counter) "fault" = some (some (.ref f9))) (i9 : PySem.W.isFn K (.ref f9) = true) (t9 : PySem.W.typeIn K (.ref f9) = some (.type "function")) (l9 : K.lookup f9 = some ⟨oc9, od9, .func (PySem.W.fnOf "fault" "Counter.fault" (defArgs s_Counter_fault) (defBody s_Counter_fault) (defScope s_Counter_fault) .none kV9 dc9 pm9 an9 cd9 ct9), sl9⟩) (c9 : PySem.W.codeIn K cd9 "Counter.fault" = true) (k9 : PySem.W.keepIn K (.ref f9) = true)
    (a10 : PySem.W.nsIn K mainGlobals "is_torn" = some (some (.ref f10))) (l10 : K.lookup f10 = some ⟨oc10, od10, .func (PySem.W.fnOf "is_torn" "is_torn" (defArgs s_is_torn) (defBody s_is_torn) (defScope s_is_torn) .none kV10 dc10 pm10 an10 cd10 ct10), sl10⟩) (c10 : PySem.W.codeIn K cd10 "is_torn" = true) (k10 : PySem.W.keepIn K (.ref f10) = true)
    (a11 : PySem.W.nsIn K mainGlobals "need_stretches" = some (some (.ref f11))) (l11 : K.lookup f11 = some ⟨oc11, od11, .func (PySem.W.fnOf "need_stretches" "need_stretches" (defArgs s_need_stretches) (defBody s_need_stretches) (defScope s_need_stretches) .none kV11 dc11 pm11 an11 cd11 ct11), sl11⟩) (c11 : PySem.W.codeIn K cd11 "need_stretches" = true) (k11 : PySem.W.keepIn K (.ref f11) = true)
    (a12 : PySem.W.nsIn K mainGlobals "run" = some (some (.ref f12))) (l12 : K.lookup f12 = some ⟨oc12, od12, .func (PySem.W.fnOf "run" "run" (defArgs s_run) (defBody s_run) (defScope s_run) .none kV12 dc12 pm12 an12 cd12 ct12), sl12⟩) (c12 : PySem.W.codeIn K cd12 "run" = true) (k12 : PySem.W.keepIn K (.ref f12) = true)
    (a13 : PySem.W.nsIn K mainGlobals "cost" = some (some (.ref f13))) (l13 : K.lookup f13 = some ⟨oc13, od13, .func (PySem.W.fnOf "cost" "cost" (defArgs s_cost) (defBody s_cost) (defScope s_cost) .none kV13 dc13 pm13 an13 cd13 ct13), sl13⟩) (c13 : PySem.W.codeIn K cd13 "cost" = true) (k13 : PySem.W.keepIn K (.ref f13) = true)
    (a14 : PySem.W.nsIn K mainGlobals "judged" = some (some (.ref f14))) (l14 : K.lookup f14 = some ⟨oc14, od14, .func (PySem.W.fnOf "judged" "judged" (defArgs s_judged) (defBody s_judged) (defScope s_judged) .none kV14 dc14 pm14 an14 cd14 ct14), sl14⟩) (c14 : PySem.W.codeIn K cd14 "judged" = true) (k14 : PySem.W.keepIn K (.ref f14) = true)
    (a15 : PySem.W.nsIn K mainGlobals "held" = some (some (.ref f15))) (l15 : K.lookup f15 = some ⟨oc15, od15, .func (PySem.W.fnOf "held" "held" (defArgs s_held) (defBody s_held) (defScope s_held) .none kV15 dc15 pm15 an15 cd15 ct15), sl15⟩) (c15 : PySem.W.codeIn K cd15 "held" = true) (k15 : PySem.W.keepIn K (.ref f15) = true)
    (a16 : PySem.W.nsIn K mainGlobals "written" = some (some (.ref f16))) (l16 : K.lookup f16 = some ⟨oc16, od16, .func (PySem.W.fnOf "written" "written" (defArgs s_written) (defBody s_written) (defScope s_written) .none kV16 dc16 pm16 an16 cd16 ct16), sl16⟩) (c16 : PySem.W.codeIn K cd16 "written" = true) (k16 : PySem.W.keepIn K (.ref f16) = true)
    (a17 : PySem.W.findIn K (.ref C_BadSetup) "__init__" = some (some (.ref f17))) (i17 : PySem.W.isFn K (.ref f17) = true) (t17 : PySem.W.typeIn K (.ref f17) = some (.type "function")) (l17 : K.lookup f17 = some ⟨oc17, od17, .func (PySem.W.fnOf "__init__" "BadSetup.__init__" (defArgs s_BadSetup___init__) (defBody s_BadSetup___init__) (defScope s_BadSetup___init__) .none kV17 dc17 pm17 an17 cd17 ct17), sl17⟩) (c17 : PySem.W.codeIn K cd17 "BadSetup.__init__" = true) (k17 : PySem.W.keepIn K (.ref f17) = true)
    (a18 : PySem.W.nsIn K mainGlobals "_law_taken" = some (some (.ref f18))) (l18 : K.lookup f18 = some ⟨oc18, od18, .func (PySem.W.fnOf "_law_taken" "_law_taken" (defArgs s__law_taken) (defBody s__law_taken) (defScope s__law_taken) .none kV18 dc18 pm18 an18 cd18 ct18), sl18⟩) (c18 : PySem.W.codeIn K cd18 "_law_taken" = true) (k18 : PySem.W.keepIn K (.ref f18) = true)
    (a19 : PySem.W.nsIn K mainGlobals "_law_row" = some (some (.ref f19))) (l19 : K.lookup f19 = some ⟨oc19, od19, .func (PySem.W.fnOf "_law_row" "_law_row" (defArgs s__law_row) (defBody s__law_row) (defScope s__law_row) .none kV19 dc19 pm19 an19 cd19 ct19), sl19⟩) (c19 : PySem.W.codeIn K cd19 "_law_row" = true) (k19 : PySem.W.keepIn K (.ref f19) = true)
    (a20 : PySem.W.nsIn K mainGlobals "_law_setup" = some (some (.ref f20))) (l20 : K.lookup f20 = some ⟨oc20, od20, .func (PySem.W.fnOf "_law_setup" "_law_setup" (defArgs s__law_setup) (defBody s__law_setup) (defScope s__law_setup) .none kV20 dc20 pm20 an20 cd20 ct20), sl20⟩) (c20 : PySem.W.codeIn K cd20 "_law_setup" = true) (k20 : PySem.W.keepIn K (.ref f20) = true)
    (a21 : PySem.W.nsIn K mainGlobals "_law_word" = some (some (.ref f21))) (l21 : K.lookup f21 = some ⟨oc21, od21, .func (PySem.W.fnOf "_law_word" "_law_word" (defArgs s__law_word) (defBody s__law_word) (defScope s__law_word) .none kV21 dc21 pm21 an21 cd21 ct21), sl21⟩) (c21 : PySem.W.codeIn K cd21 "_law_word" = true) (k21 : PySem.W.keepIn K (.ref f21) = true)
    (a22 : PySem.W.nsIn K mainGlobals "_law_why" = some (some (.ref f22))) (l22 : K.lookup f22 = some ⟨oc22, od22, .func (PySem.W.fnOf "_law_why" "_law_why" (defArgs s__law_why) (defBody s__law_why) (defScope s__law_why) .none kV22 dc22 pm22 an22 cd22 ct22), sl22⟩) (c22 : PySem.W.codeIn K cd22 "_law_why" = true) (k22 : PySem.W.keepIn K (.ref f22) = true)
    (a23 : PySem.W.nsIn K mainGlobals "_law_spoilt" = some (some (.ref f23))) (l23 : K.lookup f23 = some ⟨oc23, od23, .func (PySem.W.fnOf "_law_spoilt" "_law_spoilt" (defArgs s__law_spoilt) (defBody s__law_spoilt) (defScope s__law_spoilt) .none kV23 dc23 pm23 an23 cd23 ct23), sl23⟩) (c23 : PySem.W.codeIn K cd23 "_law_spoilt" = true) (k23 : PySem.W.keepIn K (.ref f23) = true)
    (a24 : PySem.W.nsIn K mainGlobals "_law_works" = some (some (.ref f24))) {cW TW : Addr} {odW : Option Addr} {vsW : Array Value} {slW : Array (Option Value)} (l24 : K.lookup f24 = some ⟨oc24, od24, .func (PySem.W.fnOf "_law_works" "_law_works" (defArgs s__law_works) (defBody s__law_works) (defScope s__law_works) .none kV24 dc24 pm24 an24 (.ref cW) ct24), sl24⟩) (c24 : PySem.W.codeIn K (.ref cW) "_law_works" = true) (k24 : PySem.W.keepIn K (.ref f24) = true) (xkW : K.lookup cW = some ⟨.type "code", odW, .fields vsW, slW⟩) (v11W : vsW[11]? = some (.ref TW)) (hhW : PySem.W.codeHdIn K cW TW = true) (nkW : K.lookup TW = none) (tbW : h.get? TW = some { cls := .none, data := .fields #[] })
    (a25 : PySem.W.nsIn K mainGlobals "law" = some (some (.ref f25))) {cL TL : Addr} {odC : Option Addr} {vsC : Array Value} {slC : Array (Option Value)} (l25 : K.lookup f25 = some ⟨oc25, od25, .func (PySem.W.fnOf "law" "law" (defArgs s_law) (defBody s_law) (defScope s_law) .none kV25 dc25 pm25 an25 (.ref cL) ct25), sl25⟩) (c25 : PySem.W.codeIn K (.ref cL) "law" = true) (k25 : PySem.W.keepIn K (.ref f25) = true) (xk : K.lookup cL = some ⟨.type "code", odC, .fields vsC, slC⟩) (v11 : vsC[11]? = some (.ref TL)) (hh : PySem.W.codeHdIn K cL TL = true) (nk : K.lookup TL = none) (tb : h.get? TL = some { cls := .none, data := .fields #[] })
    (z_sorted : PySem.W.nsIn K mainGlobals "sorted" = some none)
    (z_len : PySem.W.nsIn K mainGlobals "len" = some none)
    (z_range : PySem.W.nsIn K mainGlobals "range" = some none)
    (z_int : PySem.W.nsIn K mainGlobals "int" = some none)
    (z_list : PySem.W.nsIn K mainGlobals "list" = some none)
    (z_tuple : PySem.W.nsIn K mainGlobals "tuple" = some none)
    (z_max : PySem.W.nsIn K mainGlobals "max" = some none)
    (z_min : PySem.W.nsIn K mainGlobals "min" = some none)
    (z_isinstance : PySem.W.nsIn K mainGlobals "isinstance" = some none)
    (z_str : PySem.W.nsIn K mainGlobals "str" = some none)
    (z_sum : PySem.W.nsIn K mainGlobals "sum" = some none)
    (z_bool : PySem.W.nsIn K mainGlobals "bool" = some none)
    (tt : TL ≠ TW)
    : LamX.LawAtS l w K CX0 8 63 "_law_script" mg fa h := by
  have e := hfa.symm.trans (PySem.W.mg_of X G a25)
  cases e
  have T : Bn mg := ⟨PySem.W.mg_none_of X G z_sorted, PySem.W.mg_none_of X G z_len, PySem.W.mg_none_of X G z_range, PySem.W.mg_none_of X G z_int, PySem.W.mg_none_of X G z_list, PySem.W.mg_none_of X G z_tuple, PySem.W.mg_none_of X G z_max, PySem.W.mg_none_of X G z_min, PySem.W.mg_none_of X G z_isinstance, PySem.W.mg_none_of X G z_str, PySem.W.mg_none_of X G z_sum, PySem.W.mg_none_of X G z_bool⟩
  have F_read_as := fun_mk (st := s_read_as) l0 c0 k0
  have b_read_as := F_read_as.binds (ps := ["reader", "cells"]) fun _ _ _ _ _ _ us hl => match us, hl with | [_, _], _ => rfl
  have m_read_as := PySem.W.mg_of X G a0
  have F_are_copies := fun_mk (st := s_are_copies) l1 c1 k1
  have b_are_copies := F_are_copies.binds (ps := ["some", "copies"]) fun _ _ _ _ _ _ us hl => match us, hl with | [_, _], _ => rfl
  have m_are_copies := PySem.W.mg_of X G a1
  have F_need_setup := fun_mk (st := s_need_setup) l2 c2 k2
  have b_need_setup := F_need_setup.binds (ps := ["setup"]) fun _ _ _ _ _ _ us hl => match us, hl with | [_], _ => rfl
  have m_need_setup := PySem.W.mg_of X G a2
  have F_need_top := fun_mk (st := s_need_top) l3 c3 k3
  have b_need_top := F_need_top.binds (ps := ["top"]) fun _ _ _ _ _ _ us hl => match us, hl with | [_], _ => rfl
  have m_need_top := PySem.W.mg_of X G a3
  have F_row_for := fun_mk (st := s_row_for) l4 c4 k4
  have b_row_for := F_row_for.binds (ps := ["setup", "number"]) fun _ _ _ _ _ _ us hl => match us, hl with | [_, _], _ => rfl
  have m_row_for := PySem.W.mg_of X G a4
  have F_Counter___init__ := fun_mk (st := s_Counter___init__) l5 c5 k5
  have b_Counter___init__ := F_Counter___init__.binds (ps := ["self", "setup", "top"]) fun _ _ _ _ _ _ us hl => match us, hl with | [_, _, _], _ => rfl
  have m_Counter___init__ : Meth K C_Counter "__init__" f5 := ⟨a5, i5, k5⟩
  have F_Counter_read := fun_mk (st := s_Counter_read) l6 c6 k6
  have b_Counter_read := F_Counter_read.binds (ps := ["self"]) fun _ _ _ _ _ _ us hl => match us, hl with | [_], _ => rfl
  have m_Counter_read : Meth K C_Counter "read" f6 := ⟨a6, i6, k6⟩
  have F_Counter_writes := fun_mk (st := s_Counter_writes) l7 c7 k7
  have b_Counter_writes := F_Counter_writes.binds (ps := ["self", "number"]) fun _ _ _ _ _ _ us hl => match us, hl with | [_, _], _ => rfl
  have m_Counter_writes : Meth K C_Counter "writes" f7 := ⟨a7, i7, k7⟩
  have F_Counter_power := fun_mk (st := s_Counter_power) l8 c8 k8
  have b_Counter_power := F_Counter_power.binds (ps := ["self", "many", "torn"]) fun _ _ _ _ _ _ us hl => match us, hl with | [_, _, _], _ => rfl
  have m_Counter_power : Meth K C_Counter "power" f8 := ⟨a8, i8, k8⟩
  have F_Counter_fault := fun_mk (st := s_Counter_fault) l9 c9 k9
  have b_Counter_fault := F_Counter_fault.binds (ps := ["self"]) fun _ _ _ _ _ _ us hl => match us, hl with | [_], _ => rfl
  have m_Counter_fault : Meth K C_Counter "fault" f9 := ⟨a9, i9, k9⟩
  have F_is_torn := fun_mk (st := s_is_torn) l10 c10 k10
  have b_is_torn := F_is_torn.binds (ps := ["setup", "top", "torn"]) fun _ _ _ _ _ _ us hl => match us, hl with | [_, _, _], _ => rfl
  have m_is_torn := PySem.W.mg_of X G a10
  have F_need_stretches := fun_mk (st := s_need_stretches) l11 c11 k11
  have b_need_stretches := F_need_stretches.binds (ps := ["setup", "top", "stretches"]) fun _ _ _ _ _ _ us hl => match us, hl with | [_, _, _], _ => rfl
  have m_need_stretches := PySem.W.mg_of X G a11
  have F_run := fun_mk (st := s_run) l12 c12 k12
  have b_run := F_run.binds (ps := ["setup", "top", "stretches"]) fun _ _ _ _ _ _ us hl => match us, hl with | [_, _, _], _ => rfl
  have m_run := PySem.W.mg_of X G a12
  have F_cost := fun_mk (st := s_cost) l13 c13 k13
  have b_cost := F_cost.binds (ps := ["setup"]) fun _ _ _ _ _ _ us hl => match us, hl with | [_], _ => rfl
  have m_cost := PySem.W.mg_of X G a13
  have F_judged := fun_mk (st := s_judged) l14 c14 k14
  have b_judged := F_judged.binds (ps := ["setup", "top"]) fun _ _ _ _ _ _ us hl => match us, hl with | [_, _], _ => rfl
  have m_judged := PySem.W.mg_of X G a14
  have F_held := fun_mk (st := s_held) l15 c15 k15
  have b_held := F_held.binds (ps := ["setups", "top"]) fun _ _ _ _ _ _ us hl => match us, hl with | [_, _], _ => rfl
  have m_held := PySem.W.mg_of X G a15
  have F_written := fun_mk (st := s_written) l16 c16 k16
  have b_written := F_written.binds (ps := ["setup"]) fun _ _ _ _ _ _ us hl => match us, hl with | [_], _ => rfl
  have m_written := PySem.W.mg_of X G a16
  have F_BadSetup___init__ := fun_mk (st := s_BadSetup___init__) l17 c17 k17
  have b_BadSetup___init__ := F_BadSetup___init__.binds (ps := ["self", "word"]) fun _ _ _ _ _ _ us hl => match us, hl with | [_, _], _ => rfl
  have e_BadSetup___init__ := (⟨a17, t17⟩ : _ ∧ _)
  have F__law_taken := fun_mk (st := s__law_taken) l18 c18 k18
  have b__law_taken := F__law_taken.binds (ps := ["_law_row_here", "_law_many"]) fun _ _ _ _ _ _ us hl => match us, hl with | [_, _], _ => rfl
  have m__law_taken := PySem.W.mg_of X G a18
  have F__law_row := fun_mk (st := s__law_row) l19 c19 k19
  have b__law_row := F__law_row.binds (ps := ["_law_row_here", "_law_copies", "_law_least", "_law_most"]) fun _ _ _ _ _ _ us hl => match us, hl with | [_, _, _, _], _ => rfl
  have m__law_row := PySem.W.mg_of X G a19
  have F__law_setup := fun_mk (st := s__law_setup) l20 c20 k20
  have b__law_setup := F__law_setup.binds (ps := ["_law_row_here"]) fun _ _ _ _ _ _ us hl => match us, hl with | [_], _ => rfl
  have m__law_setup := PySem.W.mg_of X G a20
  have F__law_word := fun_mk (st := s__law_word) l21 c21 k21
  have b__law_word := F__law_word.binds (ps := ["_law_work"]) fun _ _ _ _ _ _ us hl => match us, hl with | [_], _ => rfl
  have m__law_word := PySem.W.mg_of X G a21
  have F__law_why := fun_mk (st := s__law_why) l22 c22 k22
  have b__law_why := F__law_why.binds (ps := ["_law_setup_here"]) fun _ _ _ _ _ _ us hl => match us, hl with | [_], _ => rfl
  have m__law_why := PySem.W.mg_of X G a22
  have F__law_spoilt := fun_mk (st := s__law_spoilt) l23 c23 k23
  have b__law_spoilt := F__law_spoilt.binds (ps := ["_law_row_here", "_law_setup_here"]) fun _ _ _ _ _ _ us hl => match us, hl with | [_, _], _ => rfl
  have m__law_spoilt := PySem.W.mg_of X G a23
  have F__law_works := fun_mk (st := s__law_works) l24 c24 k24
  have b__law_works := F__law_works.binds (ps := ["_law_setup_here", "_law_top"]) fun _ _ _ _ _ _ us hl => match us, hl with | [_, _], _ => rfl
  have m__law_works := PySem.W.mg_of X G a24
  have k_MOST_COPIES : KI mg "MOST_COPIES" (3) := ⟨_, PySem.W.mg_of X G n_MOST_COPIES⟩
  have k_MOST_TURNS : KI mg "MOST_TURNS" (3) := ⟨_, PySem.W.mg_of X G n_MOST_TURNS⟩
  have k_MOST_WRITES : KI mg "MOST_WRITES" (6) := ⟨_, PySem.W.mg_of X G n_MOST_WRITES⟩
  have k_MOST_TOP : KI mg "MOST_TOP" (4) := ⟨_, PySem.W.mg_of X G n_MOST_TOP⟩
  have k_BROKEN : KI mg "BROKEN" (-1) := ⟨_, PySem.W.mg_of X G n_BROKEN⟩
  have k_MOST_STRETCHES : KI mg "MOST_STRETCHES" (40) := ⟨_, PySem.W.mg_of X G n_MOST_STRETCHES⟩
  have k_SIX : KI mg "SIX" (6) := ⟨_, PySem.W.mg_of X G n_SIX⟩
  have k_KINDS : KT K mg "KINDS" ["checked", "plain"] := ⟨_, PySem.W.mg_of X G n_KINDS, fun B => .tup (xs := [.str "checked", .str "plain"]) (.inr ⟨_, _, _, q_KINDS, rfl, rfl, by show 2 ≤ sizeLine; decide, .cons ⟨_, rfl⟩ (.cons ⟨_, rfl⟩ (.nil))⟩) (.cons (.str _) (.cons (.str _) (.nil)))⟩
  have k_READERS : KT K mg "READERS" ["most", "least", "middle"] := ⟨_, PySem.W.mg_of X G n_READERS, fun B => .tup (xs := [.str "most", .str "least", .str "middle"]) (.inr ⟨_, _, _, q_READERS, rfl, rfl, by show 3 ≤ sizeLine; decide, .cons ⟨_, rfl⟩ (.cons ⟨_, rfl⟩ (.cons ⟨_, rfl⟩ (.nil)))⟩) (.cons (.str _) (.cons (.str _) (.cons (.str _) (.nil))))⟩
  have m_Counter := PySem.W.mg_of X G n_Counter
  have cl_Counter : Cls K C_Counter := ⟨pg_Counter, hd_Counter, po_Counter, sa_Counter⟩
  have m_CountError := PySem.W.mg_of X G n_CountError
  have m_BadSetup := PySem.W.mg_of X G n_BadSetup
  have m_BadStretch := PySem.W.mg_of X G n_BadStretch
  have m_BadText := PySem.W.mg_of X G n_BadText
  have m_BadTop := PySem.W.mg_of X G n_BadTop
  have EN : ErrN K mg C_BadSetup C_BadStretch C_BadText C_BadTop C_CountError := ⟨m_BadSetup, m_BadStretch, m_BadText, m_BadTop, m_CountError, PySem.W.mg_none_of X G z_ValueError, T.isinstance, n_oc, t_oc⟩
  have T_BadSetup : OexC K C_BadSetup := ⟨⟨_, _, _, _, _, _, _, _, _, _, _, _, _, _, _, xc_BadSetup, rfl⟩, sa_BadSetup, ex_BadSetup, ty_BadSetup, kc_BadSetup⟩
  have O_BadSetup : OwnC K mg "CountError" C_BadSetup C_CountError "word" := ⟨T_BadSetup, nf_BadSetup, m_CountError, ⟨rd_CE, gs_CE⟩, at_CE⟩
  have B_BadTop : BareX K mg "BadTop" C_BadTop := ⟨m_BadTop, xb_BadTop, kc_BadTop, ex_BadTop, ty_BadTop⟩
  have xf_BadSetup : XfC K C_BadSetup := ⟨ig_BadSetup, ik_BadSetup, ex_BadSetup, hd_BadSetup⟩
  have Q_BadSetup : KindE K C_BadSetup C_BadStretch C_BadText C_BadTop C_CountError C_BadSetup true false false false := ⟨⟨ic_BadSetup, ig_BadSetup, ik_BadSetup, ex_BadSetup, ia_BadSetup, im_BadSetup⟩, qBadSetup_BadSetup, qBadStretch_BadSetup, qBadText_BadSetup, qBadTop_BadSetup, qv_BadSetup, qe_BadSetup⟩
  have Q_BadTop : KindE K C_BadSetup C_BadStretch C_BadText C_BadTop C_CountError C_BadTop false false false true := ⟨⟨ic_BadTop, ig_BadTop, ik_BadTop, ex_BadTop, ia_BadTop, im_BadTop⟩, qBadSetup_BadTop, qBadStretch_BadTop, qBadText_BadTop, qBadTop_BadTop, qv_BadTop, qe_BadTop⟩
  refine ⟨PySem.W.fnOf "law" "law" (defArgs s_law) (defBody s_law) (defScope s_law) .none kV25 dc25 pm25 an25 (.ref cL) ct25, [(cL, TL), (cW, TW)], spD K (SLaw2 TL TW qLam qWorks), List.forall_mem_cons.mpr ⟨tb, List.forall_mem_cons.mpr ⟨tbW, fun _ h => nomatch h⟩⟩, List.forall_mem_cons.mpr ⟨nk, List.forall_mem_cons.mpr ⟨nkW, fun _ h => nomatch h⟩⟩, List.forall_mem_cons.mpr ⟨PySem.W.codeHd_of_K X hh, List.forall_mem_cons.mpr ⟨PySem.W.codeHd_of_K X hhW, fun _ h => nomatch h⟩⟩, fun s v => .of_eq rfl, fun H a ns _ _ hH hS => law_start2 tt (hH (cL, TL) List.mem_cons_self) (hH (cW, TW) (List.mem_cons_of_mem _ List.mem_cons_self)) hS, fun base _ _ TBs => ?_⟩
  have TB := TBs (cL, TL) List.mem_cons_self
  have TBW := TBs (cW, TW) (List.mem_cons_of_mem _ List.mem_cons_self)
  have CS : Cs K mg := ⟨k_KINDS, k_READERS, k_MOST_COPIES, k_MOST_TURNS, k_MOST_WRITES⟩
  have CC : Cc K C_Counter := ⟨cl_Counter, na_Counter_setup, na_Counter_top, na_Counter_cells, na_Counter_told, na_Counter_begun⟩
  have Gra := ok_readAs (P := l.prog) (w := w) (base := base) F_read_as m_read_as b_read_as T.sorted T.len
  have Gac := ok_arec (P := l.prog) (w := w) (base := base) F_are_copies m_are_copies b_are_copies T CS
  have Gns := ok_needsetup (P := l.prog) (w := w) (base := base) F_need_setup m_need_setup b_need_setup T CS Gac
  have Gnt := ok_needtop (P := l.prog) (w := w) (base := base) F_need_top m_need_top b_need_top k_MOST_TOP
  have Grf := ok_rowfor (P := l.prog) (w := w) (base := base) F_row_for m_row_for b_row_for T
  have Gci := ok_init (P := l.prog) (w := w) (base := base) F_Counter___init__ ⟨mk_Counter, m_Counter___init__.at_, m_Counter___init__.fn, kc_Counter⟩ b_Counter___init__ m_Counter CC
  have Gcr := ok_read (P := l.prog) (w := w) (base := base) F_Counter_read m_Counter_read b_Counter_read CC Gra
  have Gcw := ok_writes (P := l.prog) (w := w) (base := base) F_Counter_writes m_Counter_writes b_Counter_writes CC T Grf
  have Gcp := ok_power (P := l.prog) (w := w) (base := base) F_Counter_power m_Counter_power b_Counter_power CC T k_BROKEN Gcr Gcw
  have Gcf := ok_fault (P := l.prog) (w := w) (base := base) F_Counter_fault m_Counter_fault b_Counter_fault CC Gcr
  have Git := ok_istorn (P := l.prog) (w := w) (base := base) F_is_torn m_is_torn b_is_torn k_BROKEN
  have Gst := ok_needstr (P := l.prog) (w := w) (base := base) F_need_stretches m_need_stretches b_need_stretches T k_MOST_STRETCHES CC Gci Gcf Gcr Gcw Git Gcp
  have Grn := ok_run (P := l.prog) (w := w) (base := base) F_run m_run b_run T CC Gns Gnt Gst Gci Gcf Gcp
  have X_BadSetup : OwnX l.prog w K mg base "BadSetup" 1 C_BadSetup "word" := ⟨m_BadSetup, T_BadSetup, _, _, _, e_BadSetup___init__.1, e_BadSetup___init__.2, ok_ini F_BadSetup___init__ ⟨rfl, rfl, rfl, by decide +kernel, rfl, by decide +kernel, by decide +kernel⟩ O_BadSetup, b_BadSetup___init__⟩
  have Gco := ok_cost (P := l.prog) (w := w) (base := base) F_cost m_cost b_cost T k_SIX Gns Grf
  have Gwr := ok_written (P := l.prog) (w := w) (base := base) F_written m_written b_written T Gns
  have Gnx := ok_needsx (P := l.prog) (w := w) (base := base) F_need_setup m_need_setup b_need_setup T CS X_BadSetup Gac
  have Gtx := ok_needtopx (P := l.prog) (w := w) (base := base) F_need_top m_need_top b_need_top k_MOST_TOP B_BadTop
  have Gcb := ok_costbad (P := l.prog) (w := w) (base := base) F_cost m_cost b_cost Gnx
  have Gwb := ok_writtenbad (P := l.prog) (w := w) (base := base) F_written m_written b_written Gnx
  have Gjb := ok_judgedbad (P := l.prog) (w := w) (base := base) F_judged m_judged b_judged Gnx Gtx
  have Grb := ok_runbad (P := l.prog) (w := w) (base := base) F_run m_run b_run Gnx Gtx
  have Ghb := ok_heldbad (P := l.prog) (w := w) (base := base) F_held m_held b_held Gnx Gtx
  have Gt := ok_taken (P := l.prog) (w := w) (base := base) F__law_taken m__law_taken b__law_taken T
  have Glw := ok_lawrow (P := l.prog) (w := w) (base := base) F__law_row m__law_row b__law_row T Gt
  have Gls := ok_lawsetup (P := l.prog) (w := w) (base := base) F__law_setup m__law_setup b__law_setup T Gt Glw
  have Gs1 := ok_spoil (P := l.prog) (w := w) (base := base) 6 (by decide) F__law_spoilt m__law_spoilt b__law_spoilt T Gt
  have Gs2 := ok_spoil (P := l.prog) (w := w) (base := base) 32 (by decide) F__law_spoilt m__law_spoilt b__law_spoilt T Gt
  have Gwy := ok_why (P := l.prog) (w := w) (base := base) F__law_why m__law_why b__law_why T
  have Gwk := ok_works (P := l.prog) (w := w) (base := base) l24 c24 k24 m__law_works b__law_works TBW
  exact ok_law l25 c25 TB T EN Q_BadSetup Q_BadTop xf_BadSetup nf_BadSetup Gt Gls Gs1 Gs2 Gwy Gwk Grb Gjb Ghb Gcb Gwb Gco Gwr Grn F__law_word m__law_word b__law_word
theorem walk {l : PySem.W.OpenLaw} {q : Program} {loose : List Str} {XP : (Str → Option Value) → Heap → Prop} {YP : World → Heap → Prop} {d : DefRec} {K : Params → PySem.W.Frag} (hn : l.most = some 63) (hdf : d.params.defaults = [])
    (hY : ∀ (w : World) (h : Heap), YP w h → (K w.params).In h)
    (F : ∀ (w : World) (mg : Str → Option Value) (fa : Addr) (h : Heap), YP w h → (K w.params).In h → h.Ns mainGlobals mg → mg d.name = some (.ref fa) → LamX.LawAtS l w (K w.params) CX0 8 63 "_law_script" mg fa h) :
    PySem.W.WalkO q loose XP YP l.row.toRowW d [] (fun f vs => PySem.call f vs) :=
  LamX.walk_ofTs (n := 63) (k := 8) (x := "_law_script") (CX := fun _ => CX0) hn (by decide) hdf ⟨rfl, by decide, by decide⟩ hY F fun _ _ _ _ _ z => z
end Tc
open PySem PySem.W PyProof.Rows
set_option maxRecDepth 100000 in
set_option maxHeartbeats 0 in
theorem PySem.Challenge.cw_twincount_k01_setups_refused_holds : PySem.Challenge.rw_twincount_k01_setups_refused.Holds := by
  w_on; o_law; km_head; (case hw => w_witness2)
  k_fill
  refine Tc.walk (l := PySem.Challenge.rw_twincount_k01_setups_refused) rfl rfl (fun w h Y => PySem.W.km_in_of Y) ?F
  case F =>
    intro w mg fa h Y KX G hmg
    refine' Tc.all_mk KX G hmg ?n_MOST_COPIES ?n_MOST_TURNS ?n_MOST_WRITES ?n_MOST_TOP ?n_BROKEN ?n_MOST_STRETCHES ?n_SIX ?n_KINDS ?q_KINDS ?n_READERS ?q_READERS ?n_Counter ?pg_Counter ?hd_Counter ?po_Counter ?sa_Counter ?mk_Counter ?kc_Counter ?na_Counter_setup ?na_Counter_top ?na_Counter_cells ?na_Counter_told ?na_Counter_begun ?n_CountError ?rd_CE ?gs_CE ?at_CE ?n_BadSetup ?n_BadStretch ?n_BadText ?n_BadTop ?z_ValueError ?n_oc ?t_oc ?xc_BadSetup ?sa_BadSetup ?ex_BadSetup ?ty_BadSetup ?kc_BadSetup ?nf_BadSetup ?hd_BadSetup ?xb_BadTop ?ex_BadTop ?ty_BadTop ?kc_BadTop ?ic_BadSetup ?ig_BadSetup ?ik_BadSetup ?ia_BadSetup ?im_BadSetup ?qBadSetup_BadSetup ?qBadStretch_BadSetup ?qBadText_BadSetup ?qBadTop_BadSetup ?qv_BadSetup ?qe_BadSetup ?ic_BadTop ?ig_BadTop ?ik_BadTop ?ia_BadTop ?im_BadTop ?qBadSetup_BadTop ?qBadStretch_BadTop ?qBadText_BadTop ?qBadTop_BadTop ?qv_BadTop ?qe_BadTop ?a0 ?l0 ?c0 ?k0 ?a1 ?l1 ?c1 ?k1 ?a2 ?l2 ?c2 ?k2 ?a3 ?l3 ?c3 ?k3 ?a4 ?l4 ?c4 ?k4 ?a5 ?i5 ?t5 ?l5 ?c5 ?k5 ?a6 ?i6 ?t6 ?l6 ?c6 ?k6 ?a7 ?i7 ?t7 ?l7 ?c7 ?k7 ?a8 ?i8 ?t8 ?l8 ?c8 ?k8 ?a9 ?i9 ?t9 ?l9 ?c9 ?k9 ?a10 ?l10 ?c10 ?k10 ?a11 ?l11 ?c11 ?k11 ?a12 ?l12 ?c12 ?k12 ?a13 ?l13 ?c13 ?k13 ?a14 ?l14 ?c14 ?k14 ?a15 ?l15 ?c15 ?k15 ?a16 ?l16 ?c16 ?k16 ?a17 ?i17 ?t17 ?l17 ?c17 ?k17 ?a18 ?l18 ?c18 ?k18 ?a19 ?l19 ?c19 ?k19 ?a20 ?l20 ?c20 ?k20 ?a21 ?l21 ?c21 ?k21 ?a22 ?l22 ?c22 ?k22 ?a23 ?l23 ?c23 ?k23 ?a24 ?l24 ?c24 ?k24 ?xkW ?v11W ?hhW ?nkW ?tbW ?a25 ?l25 ?c25 ?k25 ?xk ?v11 ?hh ?nk ?tb ?z_sorted ?z_len ?z_range ?z_int ?z_list ?z_tuple ?z_max ?z_min ?z_isinstance ?z_str ?z_sum ?z_bool ?tt
    (case n_MOST_COPIES => k_is)
    (case n_MOST_TURNS => k_is)
    (case n_MOST_WRITES => k_is)
    (case n_MOST_TOP => k_is)
    (case n_BROKEN => k_is)
    (case n_MOST_STRETCHES => k_is)
    (case n_SIX => k_is)
    (case n_KINDS => k_is)
    (case q_KINDS => k_is)
    (case n_READERS => k_is)
    (case q_READERS => k_is)
    (case n_Counter => k_is)
    (case pg_Counter => k_is)
    (case hd_Counter => k_is)
    (case po_Counter => k_is)
    (case sa_Counter => k_is)
    (case mk_Counter => k_is)
    (case kc_Counter => k_is)
    (case na_Counter_setup => k_is)
    (case na_Counter_top => k_is)
    (case na_Counter_cells => k_is)
    (case na_Counter_told => k_is)
    (case na_Counter_begun => k_is)
    (case n_CountError => k_is)
    (case rd_CE => k_is)
    (case gs_CE => k_is)
    (case at_CE => k_is)
    (case n_BadSetup => k_is)
    (case n_BadStretch => k_is)
    (case n_BadText => k_is)
    (case n_BadTop => k_is)
    (case z_ValueError => k_is)
    (case n_oc => k_is)
    (case t_oc => k_is)
    (case xc_BadSetup => k_is)
    (case sa_BadSetup => k_is)
    (case ex_BadSetup => k_is)
    (case ty_BadSetup => k_is)
    (case kc_BadSetup => k_is)
    (case nf_BadSetup => k_is)
    (case hd_BadSetup => k_is)
    (case xb_BadTop => k_exc)
    (case ex_BadTop => k_is)
    (case ty_BadTop => k_is)
    (case kc_BadTop => k_is)
    (case ic_BadSetup => kernel_rfl)
    (case ig_BadSetup => k_is)
    (case ik_BadSetup => k_is)
    (case ia_BadSetup => k_is)
    (case im_BadSetup => k_is)
    (case qBadSetup_BadSetup => kernel_rfl)
    (case qBadStretch_BadSetup => kernel_rfl)
    (case qBadText_BadSetup => kernel_rfl)
    (case qBadTop_BadSetup => kernel_rfl)
    (case qv_BadSetup => kernel_rfl)
    (case qe_BadSetup => kernel_rfl)
    (case ic_BadTop => kernel_rfl)
    (case ig_BadTop => k_is)
    (case ik_BadTop => k_is)
    (case ia_BadTop => k_is)
    (case im_BadTop => k_is)
    (case qBadSetup_BadTop => kernel_rfl)
    (case qBadStretch_BadTop => kernel_rfl)
    (case qBadText_BadTop => kernel_rfl)
    (case qBadTop_BadTop => kernel_rfl)
    (case qv_BadTop => kernel_rfl)
    (case qe_BadTop => kernel_rfl)
    (case a0 => k_is)
    (case l0 => k_is)
    (case c0 => k_is)
    (case k0 => k_is)
    (case a1 => k_is)
    (case l1 => k_is)
    (case c1 => k_is)
    (case k1 => k_is)
    (case a2 => k_is)
    (case l2 => k_is)
    (case c2 => k_is)
    (case k2 => k_is)
    (case a3 => k_is)
    (case l3 => k_is)
    (case c3 => k_is)
    (case k3 => k_is)
    (case a4 => k_is)
    (case l4 => k_is)
    (case c4 => k_is)
    (case k4 => k_is)
    (case a5 => k_is)
    (case i5 => k_is)
    (case t5 => k_is)
    (case l5 => k_is)
    (case c5 => k_is)
    (case k5 => k_is)
    (case a6 => k_is)
    (case i6 => k_is)
    (case t6 => k_is)
    (case l6 => k_is)
    (case c6 => k_is)
    (case k6 => k_is)
    (case a7 => k_is)
    (case i7 => k_is)
    (case t7 => k_is)
    (case l7 => k_is)
    (case c7 => k_is)
    (case k7 => k_is)
    (case a8 => k_is)
    (case i8 => k_is)
    (case t8 => k_is)
    (case l8 => k_is)
    (case c8 => k_is)
    (case k8 => k_is)
    (case a9 => k_is)
    (case i9 => k_is)
    (case t9 => k_is)
    (case l9 => k_is)
    (case c9 => k_is)
    (case k9 => k_is)
    (case a10 => k_is)
    (case l10 => k_is)
    (case c10 => k_is)
    (case k10 => k_is)
    (case a11 => k_is)
    (case l11 => k_is)
    (case c11 => k_is)
    (case k11 => k_is)
    (case a12 => k_is)
    (case l12 => k_is)
    (case c12 => k_is)
    (case k12 => k_is)
    (case a13 => k_is)
    (case l13 => k_is)
    (case c13 => k_is)
    (case k13 => k_is)
    (case a14 => k_is)
    (case l14 => k_is)
    (case c14 => k_is)
    (case k14 => k_is)
    (case a15 => k_is)
    (case l15 => k_is)
    (case c15 => k_is)
    (case k15 => k_is)
    (case a16 => k_is)
    (case l16 => k_is)
    (case c16 => k_is)
    (case k16 => k_is)
    (case a17 => k_is)
    (case i17 => k_is)
    (case t17 => k_is)
    (case l17 => k_is)
    (case c17 => k_is)
    (case k17 => k_is)
    (case a18 => k_is)
    (case l18 => k_is)
    (case c18 => k_is)
    (case k18 => k_is)
    (case a19 => k_is)
    (case l19 => k_is)
    (case c19 => k_is)
    (case k19 => k_is)
    (case a20 => k_is)
    (case l20 => k_is)
    (case c20 => k_is)
    (case k20 => k_is)
    (case a21 => k_is)
    (case l21 => k_is)
    (case c21 => k_is)
    (case k21 => k_is)
    (case a22 => k_is)
    (case l22 => k_is)
    (case c22 => k_is)
    (case k22 => k_is)
    (case a23 => k_is)
    (case l23 => k_is)
    (case c23 => k_is)
    (case k23 => k_is)
    (case a24 => k_is)
    (case l24 => k_is)
    (case c24 => k_is)
    (case k24 => k_is)
    (case xkW => k_is)
    (case v11W => rfl)
    (case hhW => first | kernel_rfl | k_is)
    (case nkW => first | kernel_rfl | k_is)
    (case tbW => exact PySem.W.km_tabs_of Y _ (by first | exact List.mem_singleton.mpr rfl | exact List.mem_cons_self | exact List.mem_cons_of_mem _ List.mem_cons_self | simp))
    (case a25 => k_is)
    (case l25 => k_is)
    (case c25 => k_is)
    (case k25 => k_is)
    (case xk => k_is)
    (case v11 => rfl)
    (case hh => first | kernel_rfl | k_is)
    (case nk => first | kernel_rfl | k_is)
    (case tb => exact PySem.W.km_tabs_of Y _ (by first | exact List.mem_singleton.mpr rfl | exact List.mem_cons_self | exact List.mem_cons_of_mem _ List.mem_cons_self | simp))
    (case z_sorted => k_is)
    (case z_len => k_is)
    (case z_range => k_is)
    (case z_int => k_is)
    (case z_list => k_is)
    (case z_tuple => k_is)
    (case z_max => k_is)
    (case z_min => k_is)
    (case z_isinstance => k_is)
    (case z_str => k_is)
    (case z_sum => k_is)
    (case z_bool => k_is)
    (case tt => first | decide | decide +kernel | simp)
