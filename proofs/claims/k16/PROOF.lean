import PyProof.Rows.All
import Wide.All
import OpenK.AllK
import Wide.FinOn
import HandS.ForMost
import HandS.Walk
import HandS.Exc
import HandS.Wide
import HandS.IsInst
import HandS.TupAny
import HandS.TupLe
import HandS.ExcOwn
import HandS.WordsExc
import HandS.EndBits
import HandS.SortInts
import HandS.Zip
import HandS.Style
import HandS.MapJoin
import HandS.SetKeys
import HandS.More
import KE.SortData
import KE.DataMinMax
import KE.DataCmp
import KE.KDictList
import HandS.WideBits
import KE.GoesMore
import HandS.Conv
import PyProof.ReprRoads
import HandS.RaiseMore
import HandS.SortKw
import KE.KDictPairs
import HandS.Rev
import PySem.Challenge.RW_joinback_k16_needed
set_option Elab.async false
set_option linter.all false
set_option maxRecDepth 100000
namespace VS
open PySem L2

/-- how a node is held: mine, lent by the caller, fixed for good, locked while a loop walks it -/
inductive Fl where | m | l | f | k
deriving DecidableEq

/-- a tree of data -/
inductive D where
  | non
  | bl (b : Bool)
  | int (i : Int)
  | str (s : Str)
  | ty (n : String)
  | tup (ds : List D)
  | lst (g : Fl) (ds : List D)
  | dct (g : Fl) (ks : List Key) (ds : List D)
  | obj (g : Fl) (c : Str) (ns : List Str) (ds : List D)

abbrev Env := List (Option D)
abbrev FPs := List (List Addr)

structure Ctx where
  K : PySem.W.Frag
  mg : Str → Option Value
  H0 : Hp
  A : List Addr
  Lk : List Addr

def Mutb : HO → Prop
  | .lst _ => True
  | .dK _ => True
  | .ins _ _ _ => True
  | _ => False

/-- tuples and what is locked stay -/
structure Mono (H H' : Hp) : Prop where
  t : ∀ a xs, H a = some (.tup xs) → H' a = some (.tup xs)
  z : ∀ a o u, H a = some (.frz o u) → H' a = some (.frz o u)
theorem Mono.refl (H : Hp) : Mono H H := ⟨fun _ _ h => h, fun _ _ _ h => h⟩
theorem Mono.trans {H H1 H2 : Hp} (a : Mono H H1) (b : Mono H1 H2) : Mono H H2 := ⟨fun x y h => b.t x y (a.t x y h), fun x y z h => b.z x y z (a.z x y z h)⟩
theorem Mono.upd {H : Hp} {a : Addr} {u o : HO} (h : H a = some u) (mu : Mutb u) : Mono H (upd H a o) := by
  constructor
  · intro b xs e
    have : b ≠ a := by rintro rfl; rw [h] at e; cases e; exact mu
    rw [upd_ne this]; exact e
  · intro b x y e
    have : b ≠ a := by rintro rfl; rw [h] at e; cases e; exact mu
    rw [upd_ne this]; exact e
theorem Mono.new {H : Hp} {a : Addr} {o : HO} (h : H a = none) : Mono H (L2.upd H a o) := by
  constructor
  · intro b xs e
    rw [upd_ne (ne_of_none e h)]; exact e
  · intro b x y e
    rw [upd_ne (ne_of_none e h)]; exact e

/-- a list that the module's top has written -/
def KL (K : PySem.W.Frag) (a : Addr) (xs : List V) : Prop :=
  ∃ (o : Obj) (its : Array Value) (n : Nat), K.lookup a = some o ∧ o.cls = .type "list" ∧ o.dict = none ∧ o.data = .seq its n ∧ its.size ≤ sizeLine ∧ Vals xs its.toList
def RdK (K : PySem.W.Frag) (H : Hp) (a : Addr) (u : HO) : Prop := Rd H a u ∨ ∃ xs, u = .lst xs ∧ KL K a xs
theorem RdK.sql {K H a xs} (h : RdK K H a (.lst xs)) : SqL K H a xs := by
  rcases h with h | ⟨ys, e, h⟩
  · exact .inl h
  · cases e; exact .inr h
theorem RdK.rd {K H a u} (h : RdK K H a u) (n : ∀ xs, u ≠ .lst xs) : Rd H a u := by
  rcases h with h | ⟨ys, e, h⟩
  · exact h
  · exact absurd e (n ys)
/-- a node at a with content u, its own footprint -/
def Nd (C : Ctx) (H : Hp) : Fl → Addr → HO → List Addr → Prop
  | .m, a, u, fp => H a = some u ∧ fp = [a]
  | .l, a, u, fp => ((Rd C.H0 a u ∧ a ∉ C.A) ∨ ∃ xs, u = .lst xs ∧ KL C.K a xs) ∧ fp = []
  | .f, a, u, fp => (∃ o, H a = some (.frz o u)) ∧ a ∉ C.Lk ∧ fp = []
  | .k, a, u, fp => (∃ o, H a = some (.frz o u)) ∧ fp = []

def clsOf (C : Ctx) (c : Str) (Ca : Addr) : Prop := C.mg c = some (.ref Ca)

mutual
def Rep (C : Ctx) (H : Hp) : D → V → List Addr → Prop
  | .non, v, fp => v = .non ∧ fp = []
  | .bl b, v, fp => v = .bl b ∧ fp = []
  | .int i, v, fp => v = .int i ∧ fp = []
  | .str s, v, fp => v = .str s ∧ fp = []
  | .ty s, v, fp => v = .ty s ∧ fp = []
  | .tup ds, v, fp => ∃ a vs, v = .ref a ∧ SqT C.K H a vs ∧ Reps C H ds vs fp
  | .lst g ds, v, fp => ∃ a vs f1 f2, v = .ref a ∧ Nd C H g a (.lst vs) f1 ∧ Reps C H ds vs f2 ∧ (g = .m ∨ f2 = []) ∧ fp = f1 ++ f2
  | .dct g ks ds, v, fp => ∃ a kvs f1 f2, v = .ref a ∧ Nd C H g a (.dK kvs) f1 ∧ (kvs.map (·.1) = ks ∧ ks.Nodup) ∧ Reps C H ds (kvs.map (·.2)) f2 ∧ (g = .m ∨ f2 = []) ∧ fp = f1 ++ f2
  | .obj g c ns ds, v, fp => ∃ a Ca dx fs f1 f2, v = .ref a ∧ clsOf C c Ca ∧ Nd C H g a (.ins Ca dx fs) f1 ∧ fs.map (·.1) = ns ∧ Reps C H ds (fs.map (·.2)) f2 ∧ (g = .m ∨ f2 = []) ∧ fp = f1 ++ f2
def Reps (C : Ctx) (H : Hp) : List D → List V → List Addr → Prop
  | [], vs, fp => vs = [] ∧ fp = []
  | d :: ds, vs, fp => ∃ v vs' f1 f2, vs = v :: vs' ∧ Rep C H d v f1 ∧ Reps C H ds vs' f2 ∧ fp = f1 ++ f2
end

mutual
/-- no node of mine, none locked: it may be shared -/
def D.imm : D → Bool
  | .tup ds => imms ds
  | .lst g ds => (g == .l || g == .f) && imms ds
  | .dct g _ ds => (g == .l || g == .f) && imms ds
  | .obj g _ _ ds => (g == .l || g == .f) && imms ds
  | _ => true
def imms : List D → Bool
  | [] => true
  | d :: ds => d.imm && imms ds
end
mutual
/-- nothing lent, nothing locked -/
def D.nol : D → Bool
  | .tup ds => nols ds
  | .lst g ds => (g == .m || g == .f) && nols ds
  | .dct g _ ds => (g == .m || g == .f) && nols ds
  | .obj g _ _ ds => (g == .m || g == .f) && nols ds
  | _ => true
def nols : List D → Bool
  | [] => true
  | d :: ds => d.nol && nols ds
end
def Fl.lend : Fl → Fl := fun _ => .l
def Fl.fix : Fl → Fl
  | .m => .f
  | g => g
mutual
def D.lend : D → D
  | .tup ds => .tup (lends ds)
  | .lst g ds => .lst g.lend (lends ds)
  | .dct g ks ds => .dct g.lend ks (lends ds)
  | .obj g c ns ds => .obj g.lend c ns (lends ds)
  | d => d
def lends : List D → List D
  | [] => []
  | d :: ds => d.lend :: lends ds
end
mutual
def D.fix : D → D
  | .tup ds => .tup (fixs ds)
  | .lst g ds => .lst g.fix (fixs ds)
  | .dct g ks ds => .dct g.fix ks (fixs ds)
  | .obj g c ns ds => .obj g.fix c ns (fixs ds)
  | d => d
def fixs : List D → List D
  | [] => []
  | d :: ds => d.fix :: fixs ds
end

section
variable {C : Ctx} {H H' : Hp}
theorem Nd.keep {g a u fp} (n : Nd C H g a u fp) (hk : ∀ b ∈ fp, H' b = H b) (hm : Mono H H') : Nd C H' g a u fp := by
  cases g with
  | m => obtain ⟨e, rfl⟩ := n; exact ⟨by rw [hk a (by simp)]; exact e, rfl⟩
  | l => exact n
  | f => obtain ⟨⟨o, e⟩, x, rfl⟩ := n; exact ⟨⟨o, hm.z _ _ _ e⟩, x, rfl⟩
  | k => obtain ⟨⟨o, e⟩, rfl⟩ := n; exact ⟨⟨o, hm.z _ _ _ e⟩, rfl⟩
theorem sqt_keep {K a xs} (h : SqT K H a xs) (hm : Mono H H') : SqT K H' a xs := by
  rcases h with (h | ⟨o, h⟩) | h
  · exact .inl (.inl (hm.t _ _ h))
  · exact .inl (.inr ⟨o, hm.z _ _ _ h⟩)
  · exact .inr h
mutual
theorem Rep.keep : ∀ {d : D} {v : V} {fp : List Addr}, Rep C H d v fp → (∀ a ∈ fp, H' a = H a) → Mono H H' → Rep C H' d v fp
  | .non, v, fp, h, _, _ => h
  | .bl b, v, fp, h, _, _ => h
  | .int i, v, fp, h, _, _ => h
  | .str s, v, fp, h, _, _ => h
  | .ty s, v, fp, h, _, _ => h
  | .tup ds, v, fp, ⟨a, vs, e, t, r⟩, hk, hm => ⟨a, vs, e, sqt_keep t hm, Reps.keep r hk hm⟩
  | .lst g ds, v, fp, ⟨a, vs, f1, f2, e, n, r, z, e2⟩, hk, hm => ⟨a, vs, f1, f2, e, n.keep (fun b hb => hk b (by rw [e2]; exact List.mem_append_left _ hb)) hm, Reps.keep r (fun b hb => hk b (by rw [e2]; exact List.mem_append_right _ hb)) hm, z, e2⟩
  | .dct g ks ds, v, fp, ⟨a, vs, f1, f2, e, n, q, r, z, e2⟩, hk, hm => ⟨a, vs, f1, f2, e, n.keep (fun b hb => hk b (by rw [e2]; exact List.mem_append_left _ hb)) hm, q, Reps.keep r (fun b hb => hk b (by rw [e2]; exact List.mem_append_right _ hb)) hm, z, e2⟩
  | .obj g c ns ds, v, fp, ⟨a, Ca, dx, fs, f1, f2, e, c1, n, q, r, z, e2⟩, hk, hm => ⟨a, Ca, dx, fs, f1, f2, e, c1, n.keep (fun b hb => hk b (by rw [e2]; exact List.mem_append_left _ hb)) hm, q, Reps.keep r (fun b hb => hk b (by rw [e2]; exact List.mem_append_right _ hb)) hm, z, e2⟩
theorem Reps.keep : ∀ {ds : List D} {vs : List V} {fp : List Addr}, Reps C H ds vs fp → (∀ a ∈ fp, H' a = H a) → Mono H H' → Reps C H' ds vs fp
  | [], vs, fp, h, _, _ => h
  | d :: ds, vs, fp, ⟨v, vs', f1, f2, e, r, rs, e2⟩, hk, hm => ⟨v, vs', f1, f2, e, Rep.keep r (fun b hb => hk b (by rw [e2]; exact List.mem_append_left _ hb)) hm, Reps.keep rs (fun b hb => hk b (by rw [e2]; exact List.mem_append_right _ hb)) hm, e2⟩
end
theorem Nd.imm {g a u fp} (n : Nd C H g a u fp) (h : (g == .l || g == .f) = true) : fp = [] := by
  cases g with
  | m => cases h
  | l => exact n.2
  | f => exact n.2.2
  | k => cases h
mutual
theorem Rep.imm : ∀ {d : D} {v : V} {fp : List Addr}, Rep C H d v fp → d.imm = true → fp = []
  | .non, v, fp, h, _ => h.2
  | .bl b, v, fp, h, _ => h.2
  | .int i, v, fp, h, _ => h.2
  | .str s, v, fp, h, _ => h.2
  | .ty s, v, fp, h, _ => h.2
  | .tup ds, v, fp, ⟨a, vs, e, t, r⟩, hi => Reps.imm r hi
  | .lst g ds, v, fp, ⟨a, vs, f1, f2, e, n, r, z, e2⟩, hi => by
    have h := Bool.and_eq_true_iff.mp hi
    rw [e2, n.imm h.1, Reps.imm r h.2]; rfl
  | .dct g ks ds, v, fp, ⟨a, vs, f1, f2, e, n, q, r, z, e2⟩, hi => by
    have h := Bool.and_eq_true_iff.mp hi
    rw [e2, n.imm h.1, Reps.imm r h.2]; rfl
  | .obj g c ns ds, v, fp, ⟨a, Ca, dx, fs, f1, f2, e, c1, n, q, r, z, e2⟩, hi => by
    have h := Bool.and_eq_true_iff.mp hi
    rw [e2, n.imm h.1, Reps.imm r h.2]; rfl
theorem Reps.imm : ∀ {ds : List D} {vs : List V} {fp : List Addr}, Reps C H ds vs fp → imms ds = true → fp = []
  | [], vs, fp, h, _ => h.2
  | d :: ds, vs, fp, ⟨v, vs', f1, f2, e, r, rs, e2⟩, hi => by
    have h := Bool.and_eq_true_iff.mp hi
    rw [e2, Rep.imm r h.1, Reps.imm rs h.2]; rfl
end
end

section
variable {C : Ctx} {H H' : Hp}
theorem Nd.trk {g a u fp} (n : Nd C H g a u fp) (mu : Mutb u) : ∀ b ∈ fp, ∃ o, H b = some o ∧ Mutb o := by
  cases g with
  | m => obtain ⟨e, rfl⟩ := n; intro b hb; simp at hb; subst hb; exact ⟨u, e, mu⟩
  | l => obtain ⟨_, rfl⟩ := n; intro b hb; cases hb
  | f => obtain ⟨_, _, rfl⟩ := n; intro b hb; cases hb
  | k => obtain ⟨_, rfl⟩ := n; intro b hb; cases hb
mutual
theorem Rep.trk : ∀ {d : D} {v : V} {fp : List Addr}, Rep C H d v fp → ∀ b ∈ fp, ∃ o, H b = some o ∧ Mutb o
  | .non, v, fp, h => by rw [h.2]; intro b hb; cases hb
  | .bl b, v, fp, h => by rw [h.2]; intro b hb; cases hb
  | .int i, v, fp, h => by rw [h.2]; intro b hb; cases hb
  | .str s, v, fp, h => by rw [h.2]; intro b hb; cases hb
  | .ty s, v, fp, h => by rw [h.2]; intro b hb; cases hb
  | .tup ds, v, fp, ⟨a, vs, e, t, r⟩ => Reps.trk r
  | .lst g ds, v, fp, ⟨a, vs, f1, f2, e, n, r, z, e2⟩ => fun b hb => by
    rw [e2] at hb
    exact (List.mem_append.mp hb).elim (Nd.trk n trivial b) (Reps.trk r b)
  | .dct g ks ds, v, fp, ⟨a, vs, f1, f2, e, n, q, r, z, e2⟩ => fun b hb => by
    rw [e2] at hb
    exact (List.mem_append.mp hb).elim (Nd.trk n trivial b) (Reps.trk r b)
  | .obj g c ns ds, v, fp, ⟨a, Ca, dx, fs, f1, f2, e, c1, n, q, r, z, e2⟩ => fun b hb => by
    rw [e2] at hb
    exact (List.mem_append.mp hb).elim (Nd.trk n trivial b) (Reps.trk r b)
theorem Reps.trk : ∀ {ds : List D} {vs : List V} {fp : List Addr}, Reps C H ds vs fp → ∀ b ∈ fp, ∃ o, H b = some o ∧ Mutb o
  | [], vs, fp, h => by rw [h.2]; intro b hb; cases hb
  | d :: ds, vs, fp, ⟨v, vs', f1, f2, e, r, rs, e2⟩ => fun b hb => by
    rw [e2] at hb
    exact (List.mem_append.mp hb).elim (Rep.trk r b) (Reps.trk rs b)
end

/-- what stood at the entry and isn't ours stands (a locked thing is locked) -/
def Fr (C : Ctx) (H : Hp) : Prop := ∀ a o, C.H0 a = some o → a ∉ C.A → H a = some o ∨ (a ∈ C.Lk ∧ Mutb o ∧ ∃ ob, H a = some (.frz ob o))

theorem Nd.rd {g a u fp} (n : Nd C H g a u fp) (f : Fr C H) : RdK C.K H a u := by
  cases g with
  | m => exact .inl (.inl n.1)
  | l =>
    obtain ⟨⟨h | ⟨o, h⟩, na⟩ | h, _⟩ := n
    · rcases f a _ h na with q | ⟨_, _, ob, q⟩
      · exact .inl (.inl q)
      · exact .inl (.inr ⟨ob, q⟩)
    · rcases f a _ h na with q | ⟨_, mu, ob, q⟩
      · exact .inl (.inr ⟨o, q⟩)
      · exact mu.elim
    · exact .inr h
  | f => exact .inl (.inr n.1)
  | k => exact .inl (.inr n.1)
/-- the state is as env tells: fs the footprints by slots, tf those of what is held beside -/
structure Good (C : Ctx) (fs : FPs) (env : Env) (σ : St) (H : Hp) (tf : List Addr) : Prop where
  le : env.length = σ.length
  lf : fs.length = σ.length
  rep : ∀ i d, env[i]? = some (some d) → ∃ v, σ[i]? = some (some v) ∧ Rep C H d v (fs.getD i [])
  nd : (fs.flatten ++ tf).Nodup
  own : ∀ a ∈ fs.flatten ++ tf, a ∈ C.A ∨ C.H0 a = none
  trk : ∀ a ∈ fs.flatten ++ tf, ∃ o, H a = some o ∧ Mutb o
  fr : Fr C H
  lk : ∀ a ∈ C.Lk, ∃ ob u, H a = some (.frz ob u)

/-- from state to state: slots not in M are as they were, what is held beside too -/
structure Step (M : List Nat) (tf : List Addr) (fs : FPs) (env : Env) (H : Hp) (fs' : FPs) (env' : Env) (H' : Hp) : Prop where
  t : ∀ a ∈ tf, H' a = H a
  f : ∀ i, i ∉ M → fs'.getD i [] = fs.getD i []
  e : ∀ i, i ∉ M → env'[i]? = env[i]?
  h : ∀ i, i ∉ M → ∀ a ∈ fs.getD i [], H' a = H a
  m : Mono H H'
theorem Step.refl {M tf fs env H} : Step M tf fs env H fs env H := ⟨fun _ _ => rfl, fun _ _ => rfl, fun _ _ => rfl, fun _ _ _ _ => rfl, .refl H⟩
theorem Step.trans {M1 M2 tf fs env H fs1 env1 H1 fs2 env2 H2} (a : Step M1 tf fs env H fs1 env1 H1) (b : Step M2 tf fs1 env1 H1 fs2 env2 H2) : Step (M1 ++ M2) tf fs env H fs2 env2 H2 := by
  refine ⟨fun x hx => (b.t x hx).trans (a.t x hx), fun i hi => ?_, fun i hi => ?_, fun i hi x hx => ?_, a.m.trans b.m⟩
  all_goals rw [List.mem_append, not_or] at hi
  · exact (b.f i hi.2).trans (a.f i hi.1)
  · exact (b.e i hi.2).trans (a.e i hi.1)
  · exact (b.h i hi.2 x (by rw [a.f i hi.1]; exact hx)).trans (a.h i hi.1 x hx)
theorem Step.weak {M M' tf tf' fs env H fs1 env1 H1} (a : Step M tf fs env H fs1 env1 H1) (h : ∀ i ∈ M, i ∈ M') (ht : ∀ x ∈ tf', x ∈ tf) : Step M' tf' fs env H fs1 env1 H1 :=
  ⟨fun x hx => a.t x (ht x hx), fun i hi => a.f i fun z => hi (h i z), fun i hi => a.e i fun z => hi (h i z), fun i hi => a.h i fun z => hi (h i z), a.m⟩

theorem flat_set (fs : FPs) {i : Nat} (hi : i < fs.length) (x : List Addr) : (fs.set i x).flatten.Perm (x ++ (fs.set i []).flatten) := by
  induction fs generalizing i with
  | nil => cases hi
  | cons f fs ih =>
    cases i with
    | zero => simp
    | succ i =>
      simp only [List.set_cons_succ, List.flatten_cons]
      refine ((ih (by simpa using hi)).append_left f).trans ?_
      rw [← List.append_assoc, ← List.append_assoc]
      exact List.perm_append_comm.append_right _
theorem flat_get (fs : FPs) {i : Nat} (hi : i < fs.length) : fs.flatten.Perm (fs.getD i [] ++ (fs.set i []).flatten) := by
  have e : fs.set i (fs.getD i []) = fs := by
    rw [List.getD_eq_getElem?_getD, List.getElem?_eq_getElem hi]; simp
  have := flat_set fs hi (fs.getD i [])
  rwa [e] at this
theorem getD_set (fs : FPs) (i j : Nat) (x : List Addr) (hi : i < fs.length) : (fs.set i x).getD j [] = if j = i then x else fs.getD j [] := by
  rw [List.getD_eq_getElem?_getD, List.getElem?_set, List.getD_eq_getElem?_getD]
  by_cases e : j = i
  · subst e; simp [hi]
  · simp [e, Ne.symm e]
theorem mem_flat {fs : FPs} {i : Nat} {a : Addr} (h : a ∈ fs.getD i []) : a ∈ fs.flatten := by
  rw [List.getD_eq_getElem?_getD] at h
  cases q : fs[i]? with
  | none => rw [q] at h; simp at h
  | some x => rw [q] at h; exact List.mem_flatten.mpr ⟨x, List.mem_of_getElem? q, by simpa using h⟩
theorem Good.lt {fs env σ tf i d} (G : Good C fs env σ H tf) (h : env[i]? = some (some d)) : i < fs.length := by
  have := (List.getElem?_eq_some_iff.mp h).1
  rw [G.lf, ← G.le]; exact this
/-- slots' footprints stand apart -/
theorem Good.apart {fs env σ tf} (G : Good C fs env σ H tf) {i j : Nat} {a : Addr} (hij : i ≠ j) (hi : a ∈ fs.getD i []) : a ∉ fs.getD j [] := fun hj => by
  have lt : ∀ k : Nat, a ∈ fs.getD k [] → k < fs.length := fun k hk => by
    rw [List.getD_eq_getElem?_getD] at hk
    cases q : fs[k]? with
    | none => rw [q] at hk; simp at hk
    | some x => exact (List.getElem?_eq_some_iff.mp q).1
  have p := flat_get fs (lt i hi)
  have nd := (List.nodup_append.mp G.nd).1
  have nd2 := p.nodup_iff.mp nd
  have dj := (List.nodup_append.mp nd2).2.2 a hi a
  refine dj ?_ rfl
  have : a ∈ (fs.set i []).getD j [] := by rw [getD_set fs i j [] (lt i hi), if_neg (Ne.symm hij)]; exact hj
  exact mem_flat this
theorem Good.apartT {fs env σ tf} (G : Good C fs env σ H tf) {i : Nat} {a : Addr} (hi : a ∈ fs.getD i []) : a ∉ tf := fun hj =>
  (List.nodup_append.mp G.nd).2.2 a (mem_flat hi) a hj rfl
end
end VS

set_option maxRecDepth 100000
namespace VS
open PySem L2

structure Exn where
  cls : Str
  pay : Option (Str × D)

inductive R (α : Type) where
  | ok (a : α) (e : Env)
  | ex (x : Exn) (e : Env)
  | err
def R.bind {α β : Type} (r : R α) (f : α → Env → R β) : R β :=
  match r with
  | .ok a e => f a e
  | .ex x e => .ex x e
  | .err => .err
def R.of {α : Type} (o : Option α) (e : Env) : R α :=
  match o with
  | some a => .ok a e
  | none => .err
abbrev CE := Env → R D
abbrev CA := Env → R (List D)

def Ctx.At (C : Ctx) (X : Cx) : Prop := C.K = X.K ∧ C.mg = X.mg

def ExIs (C : Ctx) (x : Exn) (cv : Value) (dd : Option Addr) (H : Hp) : Prop :=
  ∃ Ca, C.mg x.cls = some (.ref Ca) ∧ cv = .ref Ca ∧
    match x.pay with
    | none => dd = none
    | some (f, d) => ∃ da v, dd = some da ∧ H da = some (.xd [(f, v)]) ∧ d.nol = true ∧ Rep C H d v []

section
variable (X : Cx) (W : WX) (C : Ctx)
def PostO (M : List Nat) (tf : List Addr) (fs : FPs) (env : Env) (σ : St) (H : Hp) (Q : VK) : R D → Prop
  | .ok d env' => ∀ v fs' H' fp, Good C fs' env' σ H' (fp ++ tf) → Step M tf fs env H fs' env' H' → Rep C H' d v fp → Q v H'
  | .ex x env' => ∀ cv dd fs' H', Good C fs' env' σ H' tf → Step M tf fs env H fs' env' H' → ExIs C x cv dd H' → W cv dd σ H'
  | .err => False
/-- where an operand's own nodes are -/
def In (R : List Nat) (own : List Addr) (fs : FPs) (fp : List Addr) : Prop := ∀ a ∈ fp, a ∈ own ∨ ∃ r ∈ R, a ∈ fs.getD r []
def PostB (M Rs : List Nat) (tf : List Addr) (fs : FPs) (env : Env) (σ : St) (H : Hp) (Q : VK) : R D → Prop
  | .ok d env' => ∀ v fs' H' fp own, Good C fs' env' σ H' (own ++ tf) → Step M tf fs env H fs' env' H' → Rep C H' d v fp → In Rs own fs' fp → Q v H'
  | .ex x env' => ∀ cv dd fs' H', Good C fs' env' σ H' tf → Step M tf fs env H fs' env' H' → ExIs C x cv dd H' → W cv dd σ H'
  | .err => False
def PostA (M Rs : List Nat) (tf : List Addr) (fs : FPs) (env : Env) (σ : St) (H : Hp) (Q : List V → Hp → Prop) : R (List D) → Prop
  | .ok ds env' => ∀ vs fs' H' fp own, Good C fs' env' σ H' (own ++ tf) → Step M tf fs env H fs' env' H' → Reps C H' ds vs fp → In Rs own fs' fp → Q vs H'
  | .ex x env' => ∀ cv dd fs' H', Good C fs' env' σ H' tf → Step M tf fs env H fs' env' H' → ExIs C x cv dd H' → W cv dd σ H'
  | .err => False
end
/-- an expression whose value is owned -/
structure SO (X : Cx) (W : WX) (M : List Nat) (e : Expr) (c : CE) : Prop where
  go : ∃ t, PE X e t ∧ ∀ C fs env σ H tf Q, C.At X → Good C fs env σ H tf → PostO W C M tf fs env σ H Q (c env) → t σ H Q
/-- an operand: it is looked at, it may lie within the slots Rs -/
structure SB (X : Cx) (W : WX) (M Rs : List Nat) (e : Expr) (c : CE) : Prop where
  go : ∃ t, PE X e t ∧ ∀ C fs env σ H tf Q, C.At X → Good C fs env σ H tf → PostB W C M Rs tf fs env σ H Q (c env) → t σ H Q
structure SA (X : Cx) (W : WX) (M Rs : List Nat) (es : List Expr) (c : CA) : Prop where
  go : ∃ t, PA X es t ∧ ∀ C fs env σ H tf Q, C.At X → Good C fs env σ H tf → PostA W C M Rs tf fs env σ H Q (c env) → t σ H Q

def Le (H H' : Hp) : Prop := ∀ a o, H a = some o → H' a = some o
theorem Le.refl (H : Hp) : Le H H := fun _ _ h => h
theorem Le.trans {H H1 H2 : Hp} (a : Le H H1) (b : Le H1 H2) : Le H H2 := fun x o h => b x o (a x o h)
theorem Le.new {H : Hp} {a : Addr} {o : HO} (h : H a = none) : Le H (upd H a o) := fun b u e => by rw [upd_ne (ne_of_none e h)]; exact e
theorem Le.mono {H H' : Hp} (h : Le H H') : Mono H H' := ⟨fun a xs e => h a _ e, fun a o u e => h a _ e⟩
theorem Le.at {H H' : Hp} (h : Le H H') {a : Addr} {P : HO → Prop} (t : ∃ o, H a = some o ∧ P o) : H' a = H a := by
  obtain ⟨o, e, _⟩ := t
  rw [e]; exact h a o e

section
variable {C : Ctx} {H H' H1 H2 : Hp} {fs fs' : FPs} {env env' : Env} {σ : St} {tf fp own : List Addr} {M Rs : List Nat}
theorem Rep.le {d v} (r : Rep C H d v fp) (h : Le H H') : Rep C H' d v fp := r.keep (fun a ha => h.at (r.trk a ha)) h.mono
theorem Reps.le {ds vs} (r : Reps C H ds vs fp) (h : Le H H') : Reps C H' ds vs fp := r.keep (fun a ha => h.at (r.trk a ha)) h.mono
theorem Fr.le (f : Fr C H) (h : Le H H') : Fr C H' := fun a o e na => by
  rcases f a o e na with q | ⟨q1, q2, ob, q3⟩
  · exact .inl (h _ _ q)
  · exact .inr ⟨q1, q2, ob, h _ _ q3⟩
theorem Fr.fresh (f : Fr C H) {a : Addr} (n : H a = none) : a ∈ C.A ∨ C.H0 a = none := by
  by_cases ha : a ∈ C.A
  · exact .inl ha
  · cases q : C.H0 a with
    | none => exact .inr rfl
    | some o =>
      rcases f a o q ha with z | ⟨_, _, ob, z⟩
      · rw [n] at z; cases z
      · rw [n] at z; cases z
/-- the heap has grown by fp -/
theorem Good.grow (G : Good C fs env σ H tf) (h : Le H H') (nd : fp.Nodup) (nw : ∀ a ∈ fp, H a = none) (tk : ∀ a ∈ fp, ∃ o, H' a = some o ∧ Mutb o) : Good C fs env σ H' (fp ++ tf) where
  le := G.le
  lf := G.lf
  rep := fun i d e => let ⟨v, e1, r⟩ := G.rep i d e; ⟨v, e1, r.le h⟩
  nd := by
    have p : (fs.flatten ++ (fp ++ tf)).Perm (fp ++ (fs.flatten ++ tf)) := by
      rw [← List.append_assoc, ← List.append_assoc]
      exact List.perm_append_comm.append_right _
    refine p.nodup_iff.mpr (List.nodup_append.mpr ⟨nd, G.nd, fun a ha b hb e => ?_⟩)
    subst e
    obtain ⟨o, q, _⟩ := G.trk a hb
    rw [nw a ha] at q; cases q
  own := fun a ha => by
    rcases List.mem_append.mp ha with z | z
    · exact G.own a (List.mem_append_left _ z)
    · rcases List.mem_append.mp z with z | z
      · exact G.fr.fresh (nw a z)
      · exact G.own a (List.mem_append_right _ z)
  trk := fun a ha => by
    rcases List.mem_append.mp ha with z | z
    · obtain ⟨o, q, mu⟩ := G.trk a (List.mem_append_left _ z)
      exact ⟨o, h _ _ q, mu⟩
    · rcases List.mem_append.mp z with z | z
      · exact tk a z
      · obtain ⟨o, q, mu⟩ := G.trk a (List.mem_append_right _ z)
        exact ⟨o, h _ _ q, mu⟩
  fr := G.fr.le h
  lk := fun a ha => let ⟨ob, u, e⟩ := G.lk a ha; ⟨ob, u, h _ _ e⟩
theorem Good.le' (G : Good C fs env σ H tf) (h : Le H H') : Good C fs env σ H' tf := G.grow (fp := []) h .nil (fun _ z => nomatch z) fun _ z => nomatch z
/-- what is held beside may be dropped -/
theorem Good.sub {tf' : List Addr} (G : Good C fs env σ H tf) (h : tf'.Sublist tf) : Good C fs env σ H tf' where
  le := G.le
  lf := G.lf
  rep := G.rep
  nd := G.nd.sublist ((List.Sublist.refl _).append h)
  own := fun a ha => G.own a (by
    rcases List.mem_append.mp ha with z | z
    · exact List.mem_append_left _ z
    · exact List.mem_append_right _ (h.subset z))
  trk := fun a ha => G.trk a (by
    rcases List.mem_append.mp ha with z | z
    · exact List.mem_append_left _ z
    · exact List.mem_append_right _ (h.subset z))
  fr := G.fr
  lk := G.lk
theorem Good.drop (G : Good C fs env σ H (own ++ tf)) : Good C fs env σ H tf := G.sub (List.sublist_append_right _ _)
theorem Step.grow (G : Good C fs env σ H tf) (h : Le H H') : Step M tf fs env H fs env H' :=
  ⟨fun a ha => h.at (G.trk a (List.mem_append_right _ ha)), fun _ _ => rfl, fun _ _ => rfl, fun i _ a ha => h.at (G.trk a (List.mem_append_left _ (mem_flat ha))), h.mono⟩
/-- an operand stands through a later step that leaves its slots -/
theorem In.keep (hi : In Rs own fs fp) (s : Step M (own ++ tf) fs env H1 fs' env' H2) (hd : ∀ r ∈ Rs, r ∉ M) : ∀ a ∈ fp, H2 a = H1 a := fun a ha => by
  rcases hi a ha with z | ⟨r, hr, z⟩
  · exact s.t a (List.mem_append_left _ z)
  · exact s.h r (hd r hr) a z
theorem In.step {own2 : List Addr} (hi : In Rs own fs fp) (s : Step M (own ++ tf) fs env H1 fs' env' H2) (hd : ∀ r ∈ Rs, r ∉ M) : In Rs (own2 ++ own) fs' fp := fun a ha => by
  rcases hi a ha with z | ⟨r, hr, z⟩
  · exact .inl (List.mem_append_right _ z)
  · exact .inr ⟨r, hr, by rw [s.f r (hd r hr)]; exact z⟩
theorem In.mono {Rs' : List Nat} {own' : List Addr} (hi : In Rs own fs fp) (h : ∀ r ∈ Rs, r ∈ Rs') (ho : ∀ a ∈ own, a ∈ own') : In Rs' own' fs fp := fun a ha => by
  rcases hi a ha with z | ⟨r, hr, z⟩
  · exact .inl (ho a z)
  · exact .inr ⟨r, h r hr, z⟩
end

def djB (Rs M : List Nat) : Bool := Rs.all fun r => !M.contains r
theorem djB_ok {Rs M : List Nat} (h : djB Rs M = true) : ∀ r ∈ Rs, r ∉ M := fun r hr hm => by
  have := List.all_eq_true.mp h r hr
  simp [hm] at this

section
variable {X : Cx} {W : WX} {M M1 M2 Rs R1 R2 : List Nat} {e a b : Expr} {es : List Expr} {ca cb : CE} {cs : CA}
/-- owned: looked at -/
theorem SO.sb (h : SO X W M e ca) : SB X W M [] e ca := by
  obtain ⟨t, p, q⟩ := h.go
  refine ⟨t, p, fun C fs env σ H tf Q hC G po => q C fs env σ H tf Q hC G ?_⟩
  cases e1 : ca env with
  | ok d env' =>
    rw [e1] at po
    exact fun v fs' H' fp G' s r => po v fs' H' fp fp G' s r fun x hx => .inl hx
  | ex x env' => rw [e1] at po; exact po
  | err => rw [e1] at po; exact po
/-- an operand without nodes of ours: owned -/
def cImm (c : CE) : CE := fun env => (c env).bind fun d env => if d.imm then .ok d env else .err
theorem SB.imm (h : SB X W M Rs e ca) : SO X W M e (cImm ca) := by
  obtain ⟨t, p, q⟩ := h.go
  refine ⟨t, p, fun C fs env σ H tf Q hC G po => q C fs env σ H tf Q hC G ?_⟩
  unfold cImm at po
  cases e1 : ca env with
  | ok d env' =>
    rw [e1] at po
    intro v fs' H' fp own G' s r hi
    have po' : PostO W C M tf fs env σ H Q (if d.imm then .ok d env' else .err) := po
    by_cases hd : d.imm = true
    · rw [if_pos hd] at po'
      have z := r.imm hd
      subst z
      exact po' v fs' H' [] (by simpa using G'.drop) s r
    · rw [if_neg hd] at po'; exact po'.elim
  | ex x env' => rw [e1] at po; exact po
  | err => rw [e1] at po; exact po
def cNil : CA := fun env => .ok [] env
def cCons (c : CE) (cs : CA) : CA := fun env => (c env).bind fun d env => (cs env).bind fun ds env => .ok (d :: ds) env
theorem sa_nil : SA X W [] [] [] cNil := by
  refine ⟨tNil, pa_nil, fun C fs env σ H tf Q hC G po => ?_⟩
  exact po [] fs H [] [] (by simpa using G) .refl ⟨rfl, rfl⟩ fun _ z => nomatch z
/-- two things in a row: the first is kept -/
theorem sa_cons (ha : SB X W M1 R1 a ca) (hr : SA X W M2 R2 es cs) (hd : djB R1 M2 = true := by decide) (hs : starEach (a :: es) X.env = (false, eval a X.env) :: starEach es X.env := by rfl) :
    SA X W (M1 ++ M2) (R1 ++ R2) (a :: es) (cCons ca cs) := by
  obtain ⟨t, p, q⟩ := ha.go
  obtain ⟨t2, p2, q2⟩ := hr.go
  refine ⟨tCons t t2, pa_cons p p2 hs, fun C fs env σ H tf Q hC G po => ?_⟩
  refine q C fs env σ H tf _ hC G ?_
  unfold cCons at po
  cases e1 : ca env with
  | err => rw [e1] at po; exact po
  | ex x env' =>
    rw [e1] at po
    exact fun cv dd fs' H' G' s => po cv dd fs' H' G' (s.weak (fun i hi => List.mem_append_left _ hi) fun _ z => z)
  | ok d env1 =>
    rw [e1] at po
    intro v fs1 H1 fp1 own1 G1 s1 r1 i1
    refine q2 C fs1 env1 σ H1 (own1 ++ tf) _ hC G1 ?_
    have po' : PostA W C (M1 ++ M2) (R1 ++ R2) tf fs env σ H Q ((cs env1).bind fun ds env => .ok (d :: ds) env) := po
    cases e2 : cs env1 with
    | err => rw [e2] at po'; exact po'
    | ex x env' =>
      rw [e2] at po'
      exact fun cv dd fs' H' G' s => po' cv dd fs' H' G'.drop (s1.trans (s.weak (fun _ z => z) fun x hx => List.mem_append_right _ hx))
    | ok ds env2 =>
      rw [e2] at po'
      intro vs fs2 H2 fp2 own2 G2 s2 r2 i2
      have po2 : ∀ vs fs' H' fp own, Good C fs' env2 σ H' (own ++ tf) → Step (M1 ++ M2) tf fs env H fs' env2 H' → Reps C H' (d :: ds) vs fp → In (R1 ++ R2) own fs' fp → Q vs H' := po'
      have k1 := i1.keep s2 (djB_ok hd)
      refine po2 (v :: vs) fs2 H2 (fp1 ++ fp2) (own2 ++ own1) (by rw [List.append_assoc]; exact G2) (s1.trans (s2.weak (fun _ z => z) fun x hx => List.mem_append_right _ hx)) ⟨v, vs, fp1, fp2, rfl, r1.keep k1 s2.m, r2, rfl⟩ ?_
      intro x hx
      rcases List.mem_append.mp hx with z | z
      · exact (i1.step (own2 := own2) s2 (djB_ok hd)).mono (fun r hr => List.mem_append_left _ hr) (fun _ z => z) x z
      · exact i2.mono (fun r hr => List.mem_append_right _ hr) (fun _ z => List.mem_append_left _ z) x z
end
end VS

set_option maxRecDepth 100000
namespace VS
open PySem L2

section
variable {X : Cx} {W : WX} {M M1 M2 M3 Rs R1 R2 R3 : List Nat} {e a b c : Expr} {es : List Expr} {ca cb cc : CE} {cs : CA} {pos : Pos}

/-! ### names, constants -/
def cVar (i : Nat) : CE := fun env => match env[i]? with
  | some (some d) => .ok d env
  | _ => .err
theorem sb_var (i : Nat) {x : Str} (hN : X.N[i]? = some x := by rfl) (hv : Vis X.env.scope x := by first | exact Or.inl rfl | exact Or.inr (Or.inl rfl) | exact Or.inr (Or.inr rfl)) (hd : (x == ("__debug__" : Str)) = false := by decide)
    (hcd : (x == ("__classdict__" : Str)) = false := by decide) : SB X W [] [i] (.Name x pos) (cVar i) := by
  refine ⟨tVar i, pe_var hN hv hd hcd, fun C fs env σ H tf Q hC G po => ?_⟩
  unfold cVar at po
  split at po
  · rename_i d e1
    obtain ⟨v, e2, r⟩ := G.rep i d e1
    exact ⟨v, e2, po v fs H _ [] (by simpa using G) .refl r fun a ha => .inr ⟨i, by simp, ha⟩⟩
  · exact po.elim
/-- a name's value is moved out -/
def cMv (i : Nat) : CE := fun env => match env[i]? with
  | some (some d) => .ok d (env.set i none)
  | _ => .err
theorem Good.mv {C : Ctx} {fs : FPs} {env : Env} {σ : St} {H : Hp} {tf : List Addr} {i : Nat} {d : D} (G : Good C fs env σ H tf) (h : env[i]? = some (some d)) :
    Good C (fs.set i []) (env.set i none) σ H (fs.getD i [] ++ tf) := by
  have hl := G.lt h
  have p : ((fs.set i []).flatten ++ (fs.getD i [] ++ tf)).Perm (fs.flatten ++ tf) := by
    rw [← List.append_assoc]
    refine List.Perm.append_right _ ?_
    exact (List.perm_append_comm).trans (flat_get fs hl).symm
  refine ⟨by simpa using G.le, by simpa using G.lf, fun j d' e => ?_, p.nodup_iff.mpr G.nd, fun a ha => G.own a (p.mem_iff.mp ha), fun a ha => G.trk a (p.mem_iff.mp ha), G.fr, G.lk⟩
  rw [List.getElem?_set] at e
  by_cases hj : i = j
  · subst hj; simp at e
  · rw [if_neg hj] at e
    obtain ⟨v, e1, r⟩ := G.rep j d' e
    exact ⟨v, e1, by rw [getD_set fs i j [] hl, if_neg (Ne.symm hj)]; exact r⟩
theorem so_mv (i : Nat) {x : Str} (hN : X.N[i]? = some x := by rfl) (hv : Vis X.env.scope x := by first | exact Or.inl rfl | exact Or.inr (Or.inl rfl) | exact Or.inr (Or.inr rfl)) (hd : (x == ("__debug__" : Str)) = false := by decide)
    (hcd : (x == ("__classdict__" : Str)) = false := by decide) : SO X W [i] (.Name x pos) (cMv i) := by
  refine ⟨tVar i, pe_var hN hv hd hcd, fun C fs env σ H tf Q hC G po => ?_⟩
  unfold cMv at po
  split at po
  · rename_i d e1
    obtain ⟨v, e2, r⟩ := G.rep i d e1
    refine ⟨v, e2, po v (fs.set i []) H _ (G.mv e1) ⟨fun _ _ => rfl, fun j hj => ?_, fun j hj => ?_, fun _ _ _ _ => rfl, .refl H⟩ r⟩
    · rw [getD_set fs i j [] (G.lt e1), if_neg (by simpa using hj)]
    · rw [List.getElem?_set, if_neg (by intro z; subst z; simp at hj)]
  · exact po.elim
def cK (d : D) : CE := fun env => .ok d env
theorem so_k {v : V} {d : D} {t : TE} (p : PE X e t) (ht : ∀ σ H Q, Q v H → t σ H Q) (hr : ∀ C H, Rep C H d v []) : SO X W [] e (cK d) :=
  ⟨t, p, fun C fs env σ H tf Q hC G po => ht σ H Q (po v fs H [] (by simpa using G) .refl (hr C H))⟩
theorem so_int {i j} : SO X W [] (.Constant (.int i) j pos) (cK (.int i)) := so_k pe_int (fun _ _ _ h => h) fun _ _ => ⟨rfl, rfl⟩
theorem so_bl {b j} : SO X W [] (.Constant (.bool b) j pos) (cK (.bl b)) := so_k pe_bl (fun _ _ _ h => h) fun _ _ => ⟨rfl, rfl⟩
theorem so_non {j} : SO X W [] (.Constant .none j pos) (cK .non) := so_k pe_non (fun _ _ _ h => h) fun _ _ => ⟨rfl, rfl⟩
theorem so_str {x j} : SO X W [] (.Constant (.str x) j pos) (cK (.str x)) := so_k pe_str (fun _ _ _ h => h) fun _ _ => ⟨rfl, rfl⟩

/-! ### two operands -/
def cTwo (ca cb : CE) : Env → R (D × D) := fun env => (ca env).bind fun x env => (cb env).bind fun y env => .ok (x, y) env
def c2 (p : D → D → Option D) (ca cb : CE) : CE := fun env => (cTwo ca cb env).bind fun xy env => R.of (p xy.1 xy.2) env
def Post2 (W : WX) (C : Ctx) (M R1 R2 : List Nat) (tf : List Addr) (fs : FPs) (env : Env) (σ : St) (H : Hp) (Q : V → V → Hp → Prop) : R (D × D) → Prop
  | .ok d env' => ∀ x y fs' H' f1 f2 own, Good C fs' env' σ H' (own ++ tf) → Step M tf fs env H fs' env' H' → Rep C H' d.1 x f1 → Rep C H' d.2 y f2 → In R1 own fs' f1 → In R2 own fs' f2 → Q x y H'
  | .ex x env' => ∀ cv dd fs' H', Good C fs' env' σ H' tf → Step M tf fs env H fs' env' H' → ExIs C x cv dd H' → W cv dd σ H'
  | .err => False
theorem two_go (ha : SB X W M1 R1 a ca) (hb : SB X W M2 R2 b cb) (hd : djB R1 M2 = true) : ∃ ta tb, PE X a ta ∧ PE X b tb ∧ ∀ C fs env σ H tf Q, C.At X → Good C fs env σ H tf →
    Post2 W C (M1 ++ M2) R1 R2 tf fs env σ H Q (cTwo ca cb env) → ta σ H fun x H1 => tb σ H1 fun y H2 => Q x y H2 := by
  obtain ⟨t, p, q⟩ := ha.go
  obtain ⟨t2, p2, q2⟩ := hb.go
  refine ⟨t, t2, p, p2, fun C fs env σ H tf Q hC G po => ?_⟩
  refine q C fs env σ H tf _ hC G ?_
  unfold cTwo at po
  cases e1 : ca env with
  | err => rw [e1] at po; exact po
  | ex x env' =>
    rw [e1] at po
    exact fun cv dd fs' H' G' s => po cv dd fs' H' G' (s.weak (fun i hi => List.mem_append_left _ hi) fun _ z => z)
  | ok d env1 =>
    rw [e1] at po
    intro v fs1 H1 fp1 own1 G1 s1 r1 i1
    refine q2 C fs1 env1 σ H1 (own1 ++ tf) _ hC G1 ?_
    have po' : Post2 W C (M1 ++ M2) R1 R2 tf fs env σ H Q ((cb env1).bind fun y env => .ok (d, y) env) := po
    cases e2 : cb env1 with
    | err => rw [e2] at po'; exact po'
    | ex x env' =>
      rw [e2] at po'
      exact fun cv dd fs' H' G' s => po' cv dd fs' H' G'.drop (s1.trans (s.weak (fun _ z => z) fun x hx => List.mem_append_right _ hx))
    | ok d2 env2 =>
      rw [e2] at po'
      intro v2 fs2 H2 fp2 own2 G2 s2 r2 i2
      have po2 : ∀ x y fs' H' f1 f2 own, Good C fs' env2 σ H' (own ++ tf) → Step (M1 ++ M2) tf fs env H fs' env2 H' → Rep C H' d x f1 → Rep C H' d2 y f2 → In R1 own fs' f1 → In R2 own fs' f2 → Q x y H' := po'
      exact po2 v v2 fs2 H2 fp1 fp2 (own2 ++ own1) (by rw [List.append_assoc]; exact G2) (s1.trans (s2.weak (fun _ z => z) fun x hx => List.mem_append_right _ hx)) (r1.keep (i1.keep s2 (djB_ok hd)) s2.m) r2
        (i1.step (own2 := own2) s2 (djB_ok hd)) (i2.mono (fun _ z => z) fun _ z => List.mem_append_left _ z)

/-- what a step on values comes to, by trees -/
def Comes (C : Ctx) (H : Hp) (d : D) (Q : VK) : Prop := ∀ v H' fp, Le H H' → Rep C H' d v fp → fp.Nodup → (∀ a ∈ fp, H a = none) → Q v H'
structure Pr2 (X : Cx) (r : L2.R2) (p : D → D → Option D) : Prop where
  run : ∀ C H x y dx dy fx fy d Q, C.At X → Fr C H → Rep C H dx x fx → Rep C H dy y fy → p dx dy = some d → Comes C H d Q → r x y H Q
structure Pr1 (X : Cx) (r : V → Hp → VK → Prop) (p : D → Option D) : Prop where
  run : ∀ C H x dx fx d Q, C.At X → Fr C H → Rep C H dx x fx → p dx = some d → Comes C H d Q → r x H Q
structure PrL (X : Cx) (r : List V → Hp → VK → Prop) (p : List D → Option D) : Prop where
  run : ∀ C H xs dxs fx d Q, C.At X → Fr C H → Reps C H dxs xs fx → p dxs = some d → Comes C H d Q → r xs H Q

theorem comes_post {C : Ctx} {fs fs1 : FPs} {env env1 : Env} {σ : St} {H H1 : Hp} {tf own : List Addr} {d : D} {Q : VK} (G1 : Good C fs1 env1 σ H1 (own ++ tf)) (s1 : Step M tf fs env H fs1 env1 H1)
    (po : PostO W C M tf fs env σ H Q (.ok d env1)) : Comes C H1 d Q := fun v H' fp le r nd nw =>
  po v fs1 H' fp (G1.drop.grow le nd nw r.trk) (by
    have := s1.trans (Step.grow (M := []) G1.drop le)
    simpa using this) r
theorem so_op {op : Operator} {r : L2.R2} {p : D → D → Option D} (ho : OpR X (binaryOp op) r) (hp : Pr2 X r p) (ha : SB X W M1 R1 a ca) (hb : SB X W M2 R2 b cb) (hd : djB R1 M2 = true := by decide) :
    SO X W (M1 ++ M2) (.BinOp a op b pos) (c2 p ca cb) := by
  obtain ⟨ta, tb, pa, pb, q⟩ := two_go ha hb hd
  refine ⟨tOp r ta tb, pe_op ho pa pb, fun C fs env σ H tf Q hC G po => q C fs env σ H tf _ hC G ?_⟩
  unfold c2 at po
  cases e1 : cTwo ca cb env with
  | err => rw [e1] at po; exact po
  | ex x env' => rw [e1] at po; exact po
  | ok d env' =>
    rw [e1] at po
    intro x y fs' H' f1 f2 own G' s r1 r2 i1 i2
    have po' : PostO W C (M1 ++ M2) tf fs env σ H Q (R.of (p d.1 d.2) env') := po
    cases e2 : p d.1 d.2 with
    | none => rw [e2] at po'; exact po'.elim
    | some z =>
      rw [e2] at po'
      exact hp.run C H' x y d.1 d.2 f1 f2 z Q hC G'.fr r1 r2 e2 (comes_post G' s po')
theorem so_cmp {op : CmpOp} {r : L2.R2} {p : D → D → Option D} (ho : OpR X (compareOp op) r) (hp : Pr2 X r p) (ha : SB X W M1 R1 a ca) (hb : SB X W M2 R2 b cb) (hm : behindInMarks op b = false := by first | exact nomark _ | rfl) (hd : djB R1 M2 = true := by decide) :
    SO X W (M1 ++ M2) (.Compare a [op] [b] pos) (c2 p ca cb) := by
  obtain ⟨ta, tb, pa, pb, q⟩ := two_go ha hb hd
  refine ⟨tOp r ta tb, pe_cmpR ho pa pb hm, fun C fs env σ H tf Q hC G po => q C fs env σ H tf _ hC G ?_⟩
  unfold c2 at po
  cases e1 : cTwo ca cb env with
  | err => rw [e1] at po; exact po
  | ex x env' => rw [e1] at po; exact po
  | ok d env' =>
    rw [e1] at po
    intro x y fs' H' f1 f2 own G' s r1 r2 i1 i2
    have po' : PostO W C (M1 ++ M2) tf fs env σ H Q (R.of (p d.1 d.2) env') := po
    cases e2 : p d.1 d.2 with
    | none => rw [e2] at po'; exact po'.elim
    | some z =>
      rw [e2] at po'
      exact hp.run C H' x y d.1 d.2 f1 f2 z Q hC G'.fr r1 r2 e2 (comes_post G' s po')
def c1 (p : D → Option D) (ca : CE) : CE := fun env => (ca env).bind fun x env => R.of (p x) env
theorem so_un {op : UnaryOp} {r : V → Hp → VK → Prop} {p : D → Option D} (ho : UnR X (unaryOp op) r) (hp : Pr1 X r p) (ha : SB X W M1 R1 a ca) : SO X W M1 (.UnaryOp op a pos) (c1 p ca) := by
  obtain ⟨ta, pa, q⟩ := ha.go
  refine ⟨tUn r ta, pe_un ho pa, fun C fs env σ H tf Q hC G po => q C fs env σ H tf _ hC G ?_⟩
  unfold c1 at po
  cases e1 : ca env with
  | err => rw [e1] at po; exact po
  | ex x env' => rw [e1] at po; exact po
  | ok d env' =>
    rw [e1] at po
    intro x fs' H' f1 own G' s r1 i1
    have po' : PostO W C M1 tf fs env σ H Q (R.of (p d) env') := po
    cases e2 : p d with
    | none => rw [e2] at po'; exact po'.elim
    | some z =>
      rw [e2] at po'
      exact hp.run C H' x d f1 z Q hC G'.fr r1 e2 (comes_post G' s po')

/-! ### tests -/
abbrev CT := Env → R Bool
def PostT (W : WX) (C : Ctx) (M : List Nat) (tf : List Addr) (fs : FPs) (env : Env) (σ : St) (H : Hp) (Q : Bool → Hp → Prop) : R Bool → Prop
  | .ok b env' => ∀ fs' H', Good C fs' env' σ H' tf → Step M tf fs env H fs' env' H' → Q b H'
  | .ex x env' => ∀ cv dd fs' H', Good C fs' env' σ H' tf → Step M tf fs env H fs' env' H' → ExIs C x cv dd H' → W cv dd σ H'
  | .err => False
structure ST (X : Cx) (W : WX) (M : List Nat) (e : Expr) (c : CT) : Prop where
  go : ∃ t, PT X e t ∧ ∀ C fs env σ H tf Q, C.At X → Good C fs env σ H tf → PostT W C M tf fs env σ H Q (c env) → t σ H Q
structure SW (X : Cx) (W : WX) (M : List Nat) (e : Expr) (c : CT) : Prop where
  go : ∃ t, PW X e t ∧ ∀ C fs env σ H tf Q, C.At X → Good C fs env σ H tf → PostT W C M tf fs env σ H Q (c env) → t σ H Q
theorem SW.st {c : CT} (h : SW X W M e c) : ST X W M e c := by
  obtain ⟨t, p, q⟩ := h.go
  exact ⟨t, p.pt, q⟩
def D.tt : D → Option Bool
  | .bl b => some b
  | _ => none
def cTt (ca : CE) : CT := fun env => (ca env).bind fun d env => R.of d.tt env
theorem tt_of {C : Ctx} {H : Hp} {d : D} {v : V} {fp : List Addr} {k : Bool} (r : Rep C H d v fp) (h : d.tt = some k) : v = .bl k := by
  cases d <;> simp [D.tt] at h
  subst h
  exact r.1
/-- a value that is a truth, as a test -/
theorem st_tt {t : TE} (ht : PT X e (tB t)) (hs : ∀ C fs env σ H tf Q, C.At X → Good C fs env σ H tf → PostB W C M Rs tf fs env σ H Q (ca env) → t σ H Q) : ST X W M e (cTt ca) := by
  refine ⟨tB t, ht, fun C fs env σ H tf Q hC G po => hs C fs env σ H tf _ hC G ?_⟩
  unfold cTt at po
  cases e1 : ca env with
  | err => rw [e1] at po; exact po
  | ex x env' => rw [e1] at po; exact po
  | ok d env' =>
    rw [e1] at po
    intro x fs' H' f1 own G' s r1 i1
    have po' : PostT W C M tf fs env σ H Q (R.of d.tt env') := po
    cases e2 : d.tt with
    | none => rw [e2] at po'; exact po'.elim
    | some k =>
      rw [e2] at po'
      exact ⟨k, tt_of r1 e2, po' fs' H' G'.drop s⟩
theorem st_val (h : SB X W M Rs e ca) (he : ∀ whole, isTrue e X.env whole = (do let v ← whole; standAt e.pos; holding [v] (truthy v)) := by intro _; rfl) : ST X W M e (cTt ca) := by
  obtain ⟨t, p, q⟩ := h.go
  exact st_tt (pt_val p he) q
theorem post_ob {C : Ctx} {fs : FPs} {env : Env} {σ : St} {H : Hp} {tf : List Addr} {Q : VK} {z : R D} (po : PostB W C M [] tf fs env σ H Q z) : PostO W C M tf fs env σ H Q z := by
  cases z with
  | err => exact po
  | ex x env' => exact po
  | ok d env' => exact fun v fs' H' fp G' s r => po v fs' H' fp fp G' s r fun x hx => .inl hx
/-- a comparison as a test -/
theorem st_cmp {op : CmpOp} {r : L2.R2} {p : D → D → Option D} (ho : OpR X (compareOp op) r) (hp : Pr2 X r p) (ha : SB X W M1 R1 a ca) (hb : SB X W M2 R2 b cb) (hm : behindInMarks op b = false := by first | exact nomark _ | rfl) (hd : djB R1 M2 = true := by decide) :
    ST X W (M1 ++ M2) (.Compare a [op] [b] pos) (cTt (c2 p ca cb)) := by
  obtain ⟨ta, tb, pa, pb, q⟩ := two_go ha hb hd
  refine st_tt (Rs := []) (t := tOp r ta tb) (pt_cmpR ho pa pb hm) fun C fs env σ H tf Q hC G po => q C fs env σ H tf _ hC G ?_
  have po := post_ob po
  unfold c2 at po
  cases e1 : cTwo ca cb env with
  | err => rw [e1] at po; exact po
  | ex x env' => rw [e1] at po; exact po
  | ok d env' =>
    rw [e1] at po
    intro x y fs' H' f1 f2 own G' s r1 r2 i1 i2
    have po' : PostO W C (M1 ++ M2) tf fs env σ H Q (R.of (p d.1 d.2) env') := po
    cases e2 : p d.1 d.2 with
    | none => rw [e2] at po'; exact po'.elim
    | some z =>
      rw [e2] at po'
      exact hp.run C H' x y d.1 d.2 f1 f2 z Q hC G'.fr r1 r2 e2 (comes_post G' s po')
def tcAnd (ca cb : CT) : CT := fun env => (ca env).bind fun b env => if b = true then cb env else .ok false env
def tcOr (ca cb : CT) : CT := fun env => (ca env).bind fun b env => if b = true then .ok true env else cb env
def tcNot (ca : CT) : CT := fun env => (ca env).bind fun b env => .ok (!b) env
variable {ta tb : CT}
theorem sw_and1 (h : ST X W M a ta) : SW X W M (.BoolOp .And [a] pos) ta := by
  obtain ⟨t, p, q⟩ := h.go
  exact ⟨t, pw_and1 p, q⟩
theorem sw_or1 (h : ST X W M a ta) : SW X W M (.BoolOp .Or [a] pos) ta := by
  obtain ⟨t, p, q⟩ := h.go
  exact ⟨t, pw_or1 p, q⟩
theorem seqT {C : Ctx} {fs : FPs} {env : Env} {σ : St} {H : Hp} {tf : List Addr} {Q : Bool → Hp → Prop} {f : Bool → CT} {t u : TT} (hC : C.At X) (G : Good C fs env σ H tf)
    (ht : ∀ C fs env σ H tf Q, C.At X → Good C fs env σ H tf → PostT W C M1 tf fs env σ H Q (ta env) → t σ H Q)
    (po : PostT W C (M1 ++ M2) tf fs env σ H Q ((ta env).bind fun b env => f b env)) {K : Bool → Hp → Prop}
    (hK : ∀ b fs1 env1 H1, Good C fs1 env1 σ H1 tf → Step M1 tf fs env H fs1 env1 H1 → PostT W C M2 tf fs1 env1 σ H1 Q (f b env1) → K b H1) : t σ H K := by
  refine ht C fs env σ H tf _ hC G ?_
  cases e1 : ta env with
  | err => rw [e1] at po; exact po
  | ex x env' =>
    rw [e1] at po
    exact fun cv dd fs' H' G' s => po cv dd fs' H' G' (s.weak (fun i hi => List.mem_append_left _ hi) fun _ z => z)
  | ok d env1 =>
    rw [e1] at po
    intro fs1 H1 G1 s1
    refine hK d fs1 env1 H1 G1 s1 ?_
    have po' : PostT W C (M1 ++ M2) tf fs env σ H Q (f d env1) := po
    cases e2 : f d env1 with
    | err => rw [e2] at po'; exact po'
    | ex x env' =>
      rw [e2] at po'
      exact fun cv dd fs' H' G' s => po' cv dd fs' H' G' (s1.trans s)
    | ok d2 env2 =>
      rw [e2] at po'
      exact fun fs2 H2 G2 s2 => po' fs2 H2 G2 (s1.trans s2)
theorem sw_and (ha : ST X W M1 a ta) (hb : SW X W M2 (.BoolOp .And (b :: es) pos) tb) : SW X W (M1 ++ M2) (.BoolOp .And (a :: b :: es) pos) (tcAnd ta tb) := by
  obtain ⟨t, p, q⟩ := ha.go
  obtain ⟨t2, p2, q2⟩ := hb.go
  refine ⟨tAnd t t2, pw_and p p2, fun C fs env σ H tf Q hC G po => ?_⟩
  refine seqT (M1 := M1) (M2 := M2) (ta := ta) (f := fun b env => if b = true then tb env else .ok false env) (u := t2) hC G q po fun b fs1 env1 H1 G1 s1 po1 => ?_
  cases b with
  | true => exact q2 C fs1 env1 σ H1 tf Q hC G1 po1
  | false => exact po1 fs1 H1 G1 .refl
theorem sw_or (ha : ST X W M1 a ta) (hb : SW X W M2 (.BoolOp .Or (b :: es) pos) tb) : SW X W (M1 ++ M2) (.BoolOp .Or (a :: b :: es) pos) (tcOr ta tb) := by
  obtain ⟨t, p, q⟩ := ha.go
  obtain ⟨t2, p2, q2⟩ := hb.go
  refine ⟨tOr t t2, pw_or p p2, fun C fs env σ H tf Q hC G po => ?_⟩
  refine seqT (M1 := M1) (M2 := M2) (ta := ta) (f := fun b env => if b = true then .ok true env else tb env) (u := t2) hC G q po fun b fs1 env1 H1 G1 s1 po1 => ?_
  cases b with
  | false => exact q2 C fs1 env1 σ H1 tf Q hC G1 po1
  | true => exact po1 fs1 H1 G1 .refl
theorem st_not (ha : ST X W M a ta) : ST X W M (.UnaryOp .Not a pos) (tcNot ta) := by
  obtain ⟨t, p, q⟩ := ha.go
  refine ⟨tNot t, pt_not p, fun C fs env σ H tf Q hC G po => q C fs env σ H tf _ hC G ?_⟩
  unfold tcNot at po
  cases e1 : ta env with
  | err => rw [e1] at po; exact po
  | ex x env' => rw [e1] at po; exact po
  | ok d env' => rw [e1] at po; exact po
end
end VS

set_option maxRecDepth 100000
namespace VS
open PySem L2 SeqAt

/-- a step on values, told by trees -/
def rD2 (X : Cx) (p : D → D → Option D) : L2.R2 := fun x y H Q => ∃ C dx dy fx fy d, Ctx.At C X ∧ Fr C H ∧ Rep C H dx x fx ∧ Rep C H dy y fy ∧ p dx dy = some d ∧ Comes C H d Q
def rD1 (X : Cx) (p : D → Option D) : V → Hp → VK → Prop := fun x H Q => ∃ C dx fx d, Ctx.At C X ∧ Fr C H ∧ Rep C H dx x fx ∧ p dx = some d ∧ Comes C H d Q
def rDL (X : Cx) (p : List D → Option D) : List V → Hp → VK → Prop := fun xs H Q => ∃ C dxs fx d, Ctx.At C X ∧ Fr C H ∧ Reps C H dxs xs fx ∧ p dxs = some d ∧ Comes C H d Q
theorem pr2_rd {X : Cx} {p} : Pr2 X (rD2 X p) p := ⟨fun C H x y dx dy fx fy d Q hC hF rx ry e k => ⟨C, dx, dy, fx, fy, d, hC, hF, rx, ry, e, k⟩⟩
theorem pr1_rd {X : Cx} {p} : Pr1 X (rD1 X p) p := ⟨fun C H x dx fx d Q hC hF rx e k => ⟨C, dx, fx, d, hC, hF, rx, e, k⟩⟩
theorem prL_rd {X : Cx} {p} : PrL X (rDL X p) p := ⟨fun C H xs dxs fx d Q hC hF rx e k => ⟨C, dxs, fx, d, hC, hF, rx, e, k⟩⟩
abbrev OD2 (X : Cx) (f : Value → Value → Sem Value) (p : D → D → Option D) : Prop := OpR X f (rD2 X p)
abbrev OD1 (X : Cx) (f : Value → Sem Value) (p : D → Option D) : Prop := UnR X f (rD1 X p)
abbrev ODL (X : Cx) (f : Value) (p : List D → Option D) : Prop := CallR X f (rDL X p)
theorem OD2.of {X : Cx} {f r p} (h : OpR X f r) (hp : ∀ x y H Q, rD2 X p x y H Q → r x y H Q) : OD2 X f p := fun pins s σ H x y v u Q I rx ry q => h pins s σ H x y v u Q I rx ry (hp _ _ _ _ q)
theorem OD1.of {X : Cx} {f r p} (h : UnR X f r) (hp : ∀ x H Q, rD1 X p x H Q → r x H Q) : OD1 X f p := fun pins s σ H x v Q I rx q => h pins s σ H x v Q I rx (hp _ _ _ q)
theorem ODL.of {X : Cx} {f r p} (h : CallR X f r) (hp : ∀ xs H Q, rDL X p xs H Q → r xs H Q) : ODL X f p := fun pins s σ H xs us Q I rx q => h pins s σ H xs us Q I rx (hp _ _ _ q)
def orP2 (p q : D → D → Option D) : D → D → Option D := fun x y => (p x y).or (q x y)
theorem OD2.or {X : Cx} {f p q} (h : OD2 X f p) (h' : OD2 X f q) : OD2 X f (orP2 p q) := by
  intro pins s σ H x y v u Q I rx ry ⟨C, dx, dy, fx, fy, d, hC, hF, r1, r2, e, k⟩
  unfold orP2 at e
  cases e1 : p dx dy with
  | some z =>
    rw [e1] at e
    have e2 : z = d := Option.some.inj e
    subst e2
    exact h pins s σ H x y v u Q I rx ry ⟨C, dx, dy, fx, fy, z, hC, hF, r1, r2, e1, k⟩
  | none => rw [e1] at e; exact h' pins s σ H x y v u Q I rx ry ⟨C, dx, dy, fx, fy, d, hC, hF, r1, r2, e, k⟩
theorem Comes.here {C : Ctx} {H : Hp} {d : D} {Q : VK} (k : Comes C H d Q) {v : V} (r : Rep C H d v []) : Q v H := k v H [] (Le.refl H) r .nil (fun _ z => nomatch z)

section
variable {X : Cx} {W : WX} {M M1 M2 M3 Rs R1 R2 R3 : List Nat} {e a b c : Expr} {es : List Expr} {ca cb cc : CE} {cs : CA} {pos : Pos}
theorem so_bin {op : Operator} {p : D → D → Option D} (ho : OD2 X (binaryOp op) p) (ha : SB X W M1 R1 a ca) (hb : SB X W M2 R2 b cb) (hd : djB R1 M2 = true := by decide) : SO X W (M1 ++ M2) (.BinOp a op b pos) (c2 p ca cb) := so_op ho pr2_rd ha hb hd
theorem so_cmpD {op : CmpOp} {p : D → D → Option D} (ho : OD2 X (compareOp op) p) (ha : SB X W M1 R1 a ca) (hb : SB X W M2 R2 b cb) (hm : behindInMarks op b = false := by first | exact nomark _ | rfl) (hd : djB R1 M2 = true := by decide) :
    SO X W (M1 ++ M2) (.Compare a [op] [b] pos) (c2 p ca cb) := so_cmp ho pr2_rd ha hb hm hd
theorem st_cmpD {op : CmpOp} {p : D → D → Option D} (ho : OD2 X (compareOp op) p) (ha : SB X W M1 R1 a ca) (hb : SB X W M2 R2 b cb) (hm : behindInMarks op b = false := by first | exact nomark _ | rfl) (hd : djB R1 M2 = true := by decide) :
    ST X W (M1 ++ M2) (.Compare a [op] [b] pos) (cTt (c2 p ca cb)) := st_cmp ho pr2_rd ha hb hm hd

/-! ### ints -/
def pI (c : Int → Int → Bool) (g : Int → Int → Int) : D → D → Option D
  | .int i, .int j => if c i j then some (.int (g i j)) else none
  | _, _ => none
def pIB (g : Int → Int → Bool) : D → D → Option D
  | .int i, .int j => some (.bl (g i j))
  | _, _ => none
theorem pI_inv {c g dx dy d} (h : pI c g dx dy = some d) : ∃ i j, dx = .int i ∧ dy = .int j ∧ c i j = true ∧ d = .int (g i j) := by
  unfold pI at h
  split at h
  · rename_i i j
    split at h
    · rename_i hc; cases h; exact ⟨i, j, rfl, rfl, hc, rfl⟩
    · cases h
  · cases h
theorem pIB_inv {g dx dy d} (h : pIB g dx dy = some d) : ∃ i j, dx = .int i ∧ dy = .int j ∧ d = .bl (g i j) := by
  unfold pIB at h
  split at h
  · rename_i i j; cases h; exact ⟨i, j, rfl, rfl, rfl⟩
  · cases h
theorem od_int {f : Value → Value → Sem Value} {Cc : Int → Int → Prop} {c : Int → Int → Bool} {g : Int → Int → Int} (h : OpR X f (rI Cc fun i j => .int (g i j))) (hc : ∀ i j, c i j = true → Cc i j) : OD2 X f (pI c g) := by
  refine OD2.of h fun x y H Q ⟨C, dx, dy, fx, fy, d, hC, hF, r1, r2, e, k⟩ => ?_
  obtain ⟨i, j, rfl, rfl, h1, rfl⟩ := pI_inv e
  obtain ⟨rfl, _⟩ := r1
  obtain ⟨rfl, _⟩ := r2
  exact ⟨i, j, rfl, rfl, hc i j h1, k.here ⟨rfl, rfl⟩⟩
theorem od_int0 {f : Value → Value → Sem Value} {g : Int → Int → Int} (h : OpR X f (rI0 fun i j => .int (g i j))) : OD2 X f (pI (fun _ _ => true) g) := by
  refine OD2.of h fun x y H Q ⟨C, dx, dy, fx, fy, d, hC, hF, r1, r2, e, k⟩ => ?_
  obtain ⟨i, j, rfl, rfl, h1, rfl⟩ := pI_inv e
  obtain ⟨rfl, _⟩ := r1
  obtain ⟨rfl, _⟩ := r2
  exact ⟨i, j, rfl, rfl, k.here ⟨rfl, rfl⟩⟩
theorem od_cmp {f : Value → Value → Sem Value} {g : Int → Int → Bool} (h : OpR X f (rI0 fun i j => .bl (g i j))) : OD2 X f (pIB g) := by
  refine OD2.of h fun x y H Q ⟨C, dx, dy, fx, fy, d, hC, hF, r1, r2, e, k⟩ => ?_
  obtain ⟨i, j, rfl, rfl, rfl⟩ := pIB_inv e
  obtain ⟨rfl, _⟩ := r1
  obtain ⟨rfl, _⟩ := r2
  exact ⟨i, j, rfl, rfl, k.here ⟨rfl, rfl⟩⟩
abbrev pAddI := pI (fun _ _ => true) (fun i j => i + j)
abbrev pSub := pI (fun _ _ => true) (fun i j => i - j)
abbrev pMulI := pI (fun i j => decide (-(2 ^ 64) < i ∧ i < 2 ^ 64) || decide (-(2 ^ 64) < j ∧ j < 2 ^ 64)) (fun i j => i * j)
abbrev pDiv := pI (fun _ j => decide (0 < j ∧ j < 2 ^ 64)) (fun i j => i / j)
abbrev pMod := pI (fun _ j => decide (0 < j)) (fun i j => i % j)
abbrev pPow := pI (fun i j => decide (0 ≤ j ∧ j ≤ 1000000 ∧ i.natAbs < 2 ^ 64)) (fun i j => i ^ j.toNat)
theorem od_addI : OD2 X (binaryOp .Add) pAddI := od_int0 op_add
theorem od_sub : OD2 X (binaryOp .Sub) pSub := od_int0 op_sub
theorem od_mulI : OD2 X (binaryOp .Mult) pMulI := od_int op_mul fun i j h => by
  rcases Bool.or_eq_true_iff.mp h with z | z
  · exact .inl (of_decide_eq_true z)
  · exact .inr (of_decide_eq_true z)
theorem od_div : OD2 X (binaryOp .FloorDiv) pDiv := od_int op_fdivW fun i j h => by
  obtain ⟨h1, h2⟩ := of_decide_eq_true h
  refine wide_div (b := 64) h1 ?_ (by decide) (by decide)
  omega
theorem od_mod : OD2 X (binaryOp .Mod) pMod := od_int op_mod fun i j h => of_decide_eq_true h
theorem od_pow : OD2 X (binaryOp .Pow) pPow := od_int op_pow fun i j h => by
  have z := of_decide_eq_true h
  exact z
abbrev pLtI := pIB fun i j => decide (i < j)
abbrev pLeI := pIB fun i j => decide (i ≤ j)
abbrev pGtI := pIB fun i j => decide (j < i)
abbrev pGeI := pIB fun i j => decide (j ≤ i)
theorem od_ltI : OD2 X (compareOp .Lt) pLtI := od_cmp op_lt
theorem od_leI : OD2 X (compareOp .LtE) pLeI := od_cmp op_le
theorem od_gtI : OD2 X (compareOp .Gt) pGtI := od_cmp op_gt
theorem od_geI : OD2 X (compareOp .GtE) pGeI := od_cmp op_ge
def pNeg : D → Option D
  | .int i => some (.int (-i))
  | _ => none
theorem od_neg : OD1 X (unaryOp .USub) pNeg := by
  refine OD1.of un_neg fun x H Q ⟨C, dx, fx, d, hC, hF, r1, e, k⟩ => ?_
  cases dx <;> simp [pNeg] at e
  subst e
  obtain ⟨rfl, _⟩ := r1
  exact ⟨_, rfl, k.here ⟨rfl, rfl⟩⟩
theorem so_neg (ha : SB X W M R1 a ca) : SO X W M (.UnaryOp .USub a pos) (c1 pNeg ca) := so_un od_neg pr1_rd ha

/-! ### == -/
mutual
def pyEq : D → D → Bool
  | .non, .non => true
  | .bl a, .bl b => a == b
  | .bl a, .int j => (if a then 1 else 0) == j
  | .int i, .bl b => i == (if b then 1 else 0)
  | .int i, .int j => i == j
  | .str x, .str y => x == y
  | .lst _ xs, .lst _ ys => pyEqs xs ys
  | .tup xs, .tup ys => pyEqs xs ys
  | _, _ => false
def pyEqs : List D → List D → Bool
  | [], [] => true
  | x :: xs, y :: ys => pyEq x y && pyEqs xs ys
  | _, _ => false
end
mutual
def eqOk : Nat → D → Bool
  | _, .non => true
  | _, .bl _ => true
  | _, .int _ => true
  | _, .str _ => true
  | n + 1, .lst _ ds => eqOks n ds
  | n + 1, .tup ds => eqOks n ds
  | _, _ => false
def eqOks : Nat → List D → Bool
  | _, [] => true
  | n, d :: ds => eqOk n d && eqOks n ds
end
theorem reps_length {C : Ctx} {H : Hp} : ∀ {ds : List D} {vs : List V} {fp : List Addr}, Reps C H ds vs fp → ds.length = vs.length
  | [], vs, fp, ⟨h, _⟩ => by rw [h]; rfl
  | d :: ds, vs, fp, ⟨v, vs', f1, f2, e, r, rs, _⟩ => by rw [e]; simp [reps_length rs]
theorem reps_get {C : Ctx} {H : Hp} : ∀ {ds : List D} {vs : List V} {fp : List Addr} {i : Nat} {d : D}, Reps C H ds vs fp → ds[i]? = some d → ∃ v g1 f g2, vs[i]? = some v ∧ Rep C H d v f ∧ fp = g1 ++ f ++ g2
  | [], vs, fp, i, d, _, h => by simp at h
  | d0 :: ds, vs, fp, 0, d, ⟨v, vs', f1, f2, e, r, rs, e2⟩, h => by
    simp at h; subst h; subst e; exact ⟨v, [], f1, f2, by simp, r, by simpa using e2⟩
  | d0 :: ds, vs, fp, i + 1, d, ⟨v, vs', f1, f2, e, r, rs, e2⟩, h => by
    subst e
    obtain ⟨w, g1, f, g2, h1, h2, h3⟩ := reps_get (i := i) rs (by simpa using h)
    exact ⟨w, f1 ++ g1, f, g2, by simpa using h1, h2, by rw [e2, h3]; simp [List.append_assoc]⟩
theorem pyEqs_len : ∀ {xs ys : List D}, xs.length ≠ ys.length → pyEqs xs ys = false
  | [], [], h => absurd rfl h
  | [], _ :: _, _ => by simp [pyEqs]
  | _ :: _, [], _ => by simp [pyEqs]
  | x :: xs, y :: ys, h => by rw [pyEqs, pyEqs_len (xs := xs) (ys := ys) (by simpa using h), Bool.and_false]
def pairE (xs ys : List D) (j : Nat) : Bool := match xs[j]?, ys[j]? with
  | some x, some y => pyEq x y
  | _, _ => false
theorem pyEqs_all : ∀ {xs ys : List D}, xs.length = ys.length → ((List.range xs.length).all fun j => pairE xs ys j) = pyEqs xs ys
  | [], [], _ => by simp [pyEqs]
  | x :: xs, y :: ys, h => by
    rw [List.length_cons, List.range_succ_eq_map, List.all_cons, List.all_map, pyEqs]
    have e0 : pairE (x :: xs) (y :: ys) 0 = pyEq x y := rfl
    have e1 : ((fun j => pairE (x :: xs) (y :: ys) j) ∘ Nat.succ) = fun j => pairE xs ys j := by funext j; simp [pairE]
    rw [e0, e1, pyEqs_all (xs := xs) (ys := ys) (by simpa using h)]

/-! what == asks of the machine -/
variable {pins : List (Addr × Obj)} {σ : St} {H : Hp} {s : Shared} {C : Ctx}
theorem rep_list {g ds v fp} (hC : C.At X) (hF : Fr C H) (r : Rep C H (.lst g ds) v fp) : ∃ a vs f, v = .ref a ∧ SqL X.K H a vs ∧ Reps C H ds vs f := by
  obtain ⟨a, vs, f1, f2, e, n, r, _, _⟩ := r
  exact ⟨a, vs, f2, e, by have := (Nd.rd n hF).sql; rwa [hC.1] at this, r⟩
theorem rep_tup {ds v fp} (hC : C.At X) (r : Rep C H (.tup ds) v fp) : ∃ a vs, v = .ref a ∧ SqT X.K H a vs ∧ Reps C H ds vs fp := by
  obtain ⟨a, vs, e, n, r⟩ := r
  exact ⟨a, vs, e, by rwa [hC.1] at n, r⟩
theorem ltu (I : Inv X pins σ H s) {a : Addr} {xs ys : List V} (h : SqL X.K H a xs) (h' : SqT X.K H a ys) : False := by
  obtain ⟨its, _, p, _⟩ := I.list h
  obtain ⟨its', _, p', _⟩ := I.tuple h'
  obtain ⟨o, n, e, c, _, _⟩ := p
  obtain ⟨o', e', c', _⟩ := p'
  rw [e] at e'; cases e'
  rw [c] at c'
  exact absurd c' (by decide)
mutual
theorem eq_same (I : Inv X pins σ H s) (hC : C.At X) (hF : Fr C H) : ∀ (d e : D) (n : Nat) (v : V) (f1 f2 : List Addr), eqOk n d = true → eqOk n e = true → Rep C H d v f1 → Rep C H e v f2 → pyEq d e = true
  | .non, e, n, v, f1, f2, o1, o2, r1, r2 => by
    obtain ⟨rfl, _⟩ := r1
    cases e <;> simp [Rep] at r2 <;> first | rfl | exact absurd r2.1 (by simp)
  | .bl b, e, n, v, f1, f2, o1, o2, r1, r2 => by
    obtain ⟨rfl, _⟩ := r1
    cases e <;> simp [Rep] at r2
    simp [pyEq, r2.1]
  | .int i, e, n, v, f1, f2, o1, o2, r1, r2 => by
    obtain ⟨rfl, _⟩ := r1
    cases e <;> simp [Rep] at r2
    simp [pyEq, r2.1]
  | .str i, e, n, v, f1, f2, o1, o2, r1, r2 => by
    obtain ⟨rfl, _⟩ := r1
    cases e <;> simp [Rep] at r2
    simp [pyEq, r2.1]
  | .ty i, e, n, v, f1, f2, o1, o2, r1, r2 => by simp [eqOk] at o1
  | .dct _ _ _, e, n, v, f1, f2, o1, o2, r1, r2 => by simp [eqOk] at o1
  | .obj _ _ _ _, e, n, v, f1, f2, o1, o2, r1, r2 => by simp [eqOk] at o1
  | .lst g ds, e, n, v, f1, f2, o1, o2, r1, r2 => by
    obtain ⟨a, vs, f, rfl, q, rs⟩ := rep_list hC hF r1
    cases n with
    | zero => simp [eqOk] at o1
    | succ n =>
      cases e with
      | lst g2 es =>
        obtain ⟨b, ws, f', e1, q2, rs2⟩ := rep_list hC hF r2
        cases e1
        rw [I.list_inj q2 q] at rs2
        exact eqs_same I hC hF ds es n vs f f' (by simpa [eqOk] using o1) (by simpa [eqOk] using o2) rs rs2
      | tup es =>
        obtain ⟨b, ws, e1, q2, rs2⟩ := rep_tup hC r2
        cases e1
        exact (ltu I q q2).elim
      | ty _ => simp [eqOk] at o2
      | dct _ _ _ => simp [eqOk] at o2
      | obj _ _ _ _ => simp [eqOk] at o2
      | _ => simp [Rep] at r2
  | .tup ds, e, n, v, f1, f2, o1, o2, r1, r2 => by
    obtain ⟨a, vs, rfl, q, rs⟩ := rep_tup hC r1
    cases n with
    | zero => simp [eqOk] at o1
    | succ n =>
      cases e with
      | tup es =>
        obtain ⟨b, ws, e1, q2, rs2⟩ := rep_tup hC r2
        cases e1
        rw [I.tuple_inj q2 q] at rs2
        exact eqs_same I hC hF ds es n vs f1 f2 (by simpa [eqOk] using o1) (by simpa [eqOk] using o2) rs rs2
      | lst g es =>
        obtain ⟨b, ws, f, e1, q2, rs2⟩ := rep_list hC hF r2
        cases e1
        exact (ltu I q2 q).elim
      | ty _ => simp [eqOk] at o2
      | dct _ _ _ => simp [eqOk] at o2
      | obj _ _ _ _ => simp [eqOk] at o2
      | _ => simp [Rep] at r2
theorem eqs_same (I : Inv X pins σ H s) (hC : C.At X) (hF : Fr C H) : ∀ (ds es : List D) (n : Nat) (vs : List V) (f1 f2 : List Addr), eqOks n ds = true → eqOks n es = true → Reps C H ds vs f1 → Reps C H es vs f2 → pyEqs ds es = true
  | [], es, n, vs, f1, f2, o1, o2, r1, r2 => by
    have := reps_length r1
    have h2 := reps_length r2
    cases es with
    | nil => rfl
    | cons e es => simp at this h2; omega
  | d :: ds, [], n, vs, f1, f2, o1, o2, r1, r2 => by
    have := reps_length r1
    have h2 := reps_length r2
    simp at this h2; omega
  | d :: ds, e :: es, n, vs, f1, f2, o1, o2, ⟨v, vs', g1, g2, e1, r1, rs1, _⟩, ⟨w, ws', k1, k2, e2, r2, rs2, _⟩ => by
    rw [e1] at e2; cases e2
    simp only [eqOks, Bool.and_eq_true] at o1 o2
    rw [pyEqs, eq_same I hC hF d e n v g1 k1 o1.1 o2.1 r1 r2, eqs_same I hC hF ds es n vs' g2 k2 o1.2 o2.2 rs1 rs2]; rfl
end

theorem reps_vals {ds : List D} {vs : List V} {us : List Value} {fp} (r : Reps C H ds vs fp) (rv : Vals vs us) : ds.length = us.length := (reps_length r).trans rv.length
section
open SeqAt
theorem rc_flip (I : Inv X pins σ H s) {a b : Addr} {xs ys : List V} (h : SqL X.K H a xs) (h' : SqT X.K H b ys) : a ≠ b := by
  intro e; subst e; exact ltu I h h'
mutual
theorem rc_rep (I : Inv X pins σ H s) (hC : C.At X) (hF : Fr C H) : ∀ (d e : D) (n : Nat) (A : Around) (v w : V) (f1 f2 : List Addr) (u u' : Value), eqOk n d = true → eqOk n e = true → Rep C H d v f1 → Rep C H e w f2 → RelV v u → RelV w u' → A.units + n + 1 < cLine →
    RcAt A s u u' (pyEq d e) ∧ EqAt A s u u' (pyEq d e)
  | .ty i, e, n, A, v, w, f1, f2, u, u', o1, o2, r1, r2, q1, q2, hu => by simp [eqOk] at o1
  | .dct _ _ _, e, n, A, v, w, f1, f2, u, u', o1, o2, r1, r2, q1, q2, hu => by simp [eqOk] at o1
  | .obj _ _ _ _, e, n, A, v, w, f1, f2, u, u', o1, o2, r1, r2, q1, q2, hu => by simp [eqOk] at o1
  | .non, e, n, A, v, w, f1, f2, u, u', o1, o2, r1, r2, q1, q2, hu => by
    obtain ⟨rfl, _⟩ := r1
    cases (show u = Value.none from q1)
    cases e with
    | non => obtain ⟨rfl, _⟩ := r2; cases (show u' = Value.none from q2); exact ⟨RcAt.none_none, EqAt.same _⟩
    | bl b => obtain ⟨rfl, _⟩ := r2; cases (show u' = Value.bool b from q2); exact ⟨RcAt.none_bool b, EqAt.none_bool b⟩
    | int j => obtain ⟨rfl, _⟩ := r2; obtain ⟨t, rfl⟩ := q2; exact ⟨RcAt.none_int j t, EqAt.none_int j t⟩
    | str j => obtain ⟨rfl, _⟩ := r2; obtain ⟨t, rfl⟩ := q2; exact ⟨RcAt.none_str j t, EqAt.none_str j t⟩
    | lst g es =>
      obtain ⟨a, vs, f, rfl, q, rs⟩ := rep_list hC hF r2
      cases (show u' = Value.ref a from q2)
      obtain ⟨its, _, p, _⟩ := I.list q
      exact ⟨RcAt.none_list p.isList (by omega), EqAt.none_list p.isList (by omega)⟩
    | tup es =>
      obtain ⟨a, vs, rfl, q, rs⟩ := rep_tup hC r2
      cases (show u' = Value.ref a from q2)
      obtain ⟨its, _, p, _⟩ := I.tuple q
      exact ⟨RcAt.none_tuple p (by omega), EqAt.none_tuple p (by omega)⟩
    | ty _ => simp [eqOk] at o2
    | dct _ _ _ => simp [eqOk] at o2
    | obj _ _ _ _ => simp [eqOk] at o2
  | .bl x, e, n, A, v, w, f1, f2, u, u', o1, o2, r1, r2, q1, q2, hu => by
    obtain ⟨rfl, _⟩ := r1
    cases (show u = Value.bool x from q1)
    cases e with
    | non => obtain ⟨rfl, _⟩ := r2; cases (show u' = Value.none from q2); exact ⟨RcAt.bool_none x, EqAt.bool_none x⟩
    | bl b => obtain ⟨rfl, _⟩ := r2; cases (show u' = Value.bool b from q2); exact ⟨RcAt.bool_bool x b, EqAt.bool_bool x b⟩
    | int j => obtain ⟨rfl, _⟩ := r2; obtain ⟨t, rfl⟩ := q2; exact ⟨RcAt.bool_int x j t, EqAt.bool_int x j t⟩
    | str j => obtain ⟨rfl, _⟩ := r2; obtain ⟨t, rfl⟩ := q2; exact ⟨RcAt.bool_str x j t, EqAt.bool_str x j t⟩
    | lst g es =>
      obtain ⟨a, vs, f, rfl, q, rs⟩ := rep_list hC hF r2
      cases (show u' = Value.ref a from q2)
      obtain ⟨its, _, p, _⟩ := I.list q
      exact ⟨RcAt.bool_list x p.isList (by omega), EqAt.bool_list x p.isList (by omega)⟩
    | tup es =>
      obtain ⟨a, vs, rfl, q, rs⟩ := rep_tup hC r2
      cases (show u' = Value.ref a from q2)
      obtain ⟨its, _, p, _⟩ := I.tuple q
      exact ⟨RcAt.bool_tuple x p (by omega), EqAt.bool_tuple x p (by omega)⟩
    | ty _ => simp [eqOk] at o2
    | dct _ _ _ => simp [eqOk] at o2
    | obj _ _ _ _ => simp [eqOk] at o2
  | .int x, e, n, A, v, w, f1, f2, u, u', o1, o2, r1, r2, q1, q2, hu => by
    obtain ⟨rfl, _⟩ := r1
    obtain ⟨t0, rfl⟩ := q1
    cases e with
    | non => obtain ⟨rfl, _⟩ := r2; cases (show u' = Value.none from q2); exact ⟨RcAt.int_none x t0, EqAt.int_none x t0⟩
    | bl b => obtain ⟨rfl, _⟩ := r2; cases (show u' = Value.bool b from q2); exact ⟨RcAt.int_bool x t0 b, EqAt.int_bool x t0 b⟩
    | int j => obtain ⟨rfl, _⟩ := r2; obtain ⟨t, rfl⟩ := q2; exact ⟨RcAt.int_int x t0 j t, EqAt.int_int x t0 j t⟩
    | str j => obtain ⟨rfl, _⟩ := r2; obtain ⟨t, rfl⟩ := q2; exact ⟨RcAt.int_str x t0 j t, EqAt.int_str x t0 j t⟩
    | lst g es =>
      obtain ⟨a, vs, f, rfl, q, rs⟩ := rep_list hC hF r2
      cases (show u' = Value.ref a from q2)
      obtain ⟨its, _, p, _⟩ := I.list q
      exact ⟨RcAt.int_list x t0 p.isList (by omega), EqAt.int_list x t0 p.isList (by omega)⟩
    | tup es =>
      obtain ⟨a, vs, rfl, q, rs⟩ := rep_tup hC r2
      cases (show u' = Value.ref a from q2)
      obtain ⟨its, _, p, _⟩ := I.tuple q
      exact ⟨RcAt.int_tuple x t0 p (by omega), EqAt.int_tuple x t0 p (by omega)⟩
    | ty _ => simp [eqOk] at o2
    | dct _ _ _ => simp [eqOk] at o2
    | obj _ _ _ _ => simp [eqOk] at o2
  | .str x, e, n, A, v, w, f1, f2, u, u', o1, o2, r1, r2, q1, q2, hu => by
    obtain ⟨rfl, _⟩ := r1
    obtain ⟨t0, rfl⟩ := q1
    cases e with
    | non => obtain ⟨rfl, _⟩ := r2; cases (show u' = Value.none from q2); exact ⟨RcAt.str_none x t0, EqAt.str_none x t0⟩
    | bl b => obtain ⟨rfl, _⟩ := r2; cases (show u' = Value.bool b from q2); exact ⟨RcAt.str_bool x t0 b, EqAt.str_bool x t0 b⟩
    | int j => obtain ⟨rfl, _⟩ := r2; obtain ⟨t, rfl⟩ := q2; exact ⟨RcAt.str_int x t0 j t, EqAt.str_int x t0 j t⟩
    | str j => obtain ⟨rfl, _⟩ := r2; obtain ⟨t, rfl⟩ := q2; exact ⟨RcAt.str_str x t0 j t, EqAt.str_str x t0 j t⟩
    | lst g es =>
      obtain ⟨a, vs, f, rfl, q, rs⟩ := rep_list hC hF r2
      cases (show u' = Value.ref a from q2)
      obtain ⟨its, _, p, _⟩ := I.list q
      exact ⟨RcAt.str_list x t0 p.isList (by omega), EqAt.str_list x t0 p.isList (by omega)⟩
    | tup es =>
      obtain ⟨a, vs, rfl, q, rs⟩ := rep_tup hC r2
      cases (show u' = Value.ref a from q2)
      obtain ⟨its, _, p, _⟩ := I.tuple q
      exact ⟨RcAt.str_tuple x t0 p (by omega), EqAt.str_tuple x t0 p (by omega)⟩
    | ty _ => simp [eqOk] at o2
    | dct _ _ _ => simp [eqOk] at o2
    | obj _ _ _ _ => simp [eqOk] at o2
  | .lst g ds, e, n, A, v, w, f1, f2, u, u', o1, o2, r1, r2, q1, q2, hu => by
    have r1' := r1
    have r2' := r2
    have q2' := q2
    obtain ⟨a, vs, f, rfl, q, rs⟩ := rep_list hC hF r1
    cases (show u = Value.ref a from q1)
    obtain ⟨its, rv, p, _⟩ := I.list q
    have hi := p.isList
    cases e with
    | non => obtain ⟨rfl, _⟩ := r2; cases (show u' = Value.none from q2); exact ⟨RcAt.list_none hi (by omega), EqAt.list_none hi (by omega)⟩
    | bl b => obtain ⟨rfl, _⟩ := r2; cases (show u' = Value.bool b from q2); exact ⟨RcAt.list_bool b hi (by omega), EqAt.list_bool b hi (by omega)⟩
    | int j => obtain ⟨rfl, _⟩ := r2; obtain ⟨t, rfl⟩ := q2; exact ⟨RcAt.list_int j t hi (by omega), EqAt.list_int j t hi (by omega)⟩
    | str j => obtain ⟨rfl, _⟩ := r2; obtain ⟨t, rfl⟩ := q2; exact ⟨RcAt.list_str j t hi (by omega), EqAt.list_str j t hi (by omega)⟩
    | tup es =>
      obtain ⟨b, ws, rfl, k, rs2⟩ := rep_tup hC r2
      cases (show u' = Value.ref b from q2)
      obtain ⟨its2, _, p2, _⟩ := I.tuple k
      exact ⟨RcAt.list_tuple hi p2 (by omega), EqAt.list_tuple hi p2 (by omega)⟩
    | ty _ => simp [eqOk] at o2
    | dct _ _ _ => simp [eqOk] at o2
    | obj _ _ _ _ => simp [eqOk] at o2
    | lst g2 es =>
      cases n with
      | zero => simp [eqOk] at o1
      | succ n =>
        obtain ⟨b, ws, f', rfl, k, rs2⟩ := rep_list hC hF r2
        cases (show u' = Value.ref b from q2)
        obtain ⟨its2, rv2, p2, _⟩ := I.list k
        have hi2 := p2.isList
        have n1 := reps_vals rs rv
        have n2 := reps_vals rs2 rv2
        have he := rc_reps I hC hF ds es n A.in1 vs ws f f' its its2 (by simpa [eqOk] using o1) (by simpa [eqOk] using o2) rs rs2 rv rv2 (by show A.units + 1 + n + 1 < cLine; omega)
        have rc : RcAt A s (.ref a) (.ref b) (pyEqs ds es) := by
          by_cases hsz : ds.length = es.length
          · rw [← pyEqs_all hsz, n1]
            have := RcAt.lists (A := A) (e := fun j => pairE ds es j) hi hi2 (by simp; omega) (by omega) (fun j h1 h2 => by
              have := he j (by simpa using h1) (by simpa using h2)
              simpa using this)
            simpa using this
          · rw [pyEqs_len hsz]
            exact RcAt.lists_lengths hi hi2 (by simp; omega) (by omega)
        refine ⟨rc, ?_⟩
        by_cases hab : a = b
        · subst hab
          have := eq_same I hC hF _ _ (n + 1) _ f1 f2 o1 o2 r1' r2'
          rw [this]; exact EqAt.same _
        · exact EqAt.of_refs hab rc
  | .tup ds, e, n, A, v, w, f1, f2, u, u', o1, o2, r1, r2, q1, q2, hu => by
    have r1' := r1
    have r2' := r2
    obtain ⟨a, vs, rfl, q, rs⟩ := rep_tup hC r1
    cases (show u = Value.ref a from q1)
    obtain ⟨its, rv, p, _⟩ := I.tuple q
    have hi : s.heap.IsTuple a its.toArray := p
    cases e with
    | non => obtain ⟨rfl, _⟩ := r2; cases (show u' = Value.none from q2); exact ⟨RcAt.tuple_none hi (by omega), EqAt.tuple_none hi (by omega)⟩
    | bl b => obtain ⟨rfl, _⟩ := r2; cases (show u' = Value.bool b from q2); exact ⟨RcAt.tuple_bool b hi (by omega), EqAt.tuple_bool b hi (by omega)⟩
    | int j => obtain ⟨rfl, _⟩ := r2; obtain ⟨t, rfl⟩ := q2; exact ⟨RcAt.tuple_int j t hi (by omega), EqAt.tuple_int j t hi (by omega)⟩
    | str j => obtain ⟨rfl, _⟩ := r2; obtain ⟨t, rfl⟩ := q2; exact ⟨RcAt.tuple_str j t hi (by omega), EqAt.tuple_str j t hi (by omega)⟩
    | lst g es =>
      obtain ⟨b, ws, f, rfl, k, rs2⟩ := rep_list hC hF r2
      cases (show u' = Value.ref b from q2)
      obtain ⟨its2, _, p2, _⟩ := I.list k
      exact ⟨RcAt.tuple_list hi p2.isList (by omega), EqAt.tuple_list hi p2.isList (by omega)⟩
    | ty _ => simp [eqOk] at o2
    | dct _ _ _ => simp [eqOk] at o2
    | obj _ _ _ _ => simp [eqOk] at o2
    | tup es =>
      cases n with
      | zero => simp [eqOk] at o1
      | succ n =>
        obtain ⟨b, ws, rfl, k, rs2⟩ := rep_tup hC r2
        cases (show u' = Value.ref b from q2)
        obtain ⟨its2, rv2, p2, _⟩ := I.tuple k
        have hi2 : s.heap.IsTuple b its2.toArray := p2
        have n1 := reps_vals rs rv
        have n2 := reps_vals rs2 rv2
        have he := rc_reps I hC hF ds es n A.in1 vs ws f1 f2 its its2 (by simpa [eqOk] using o1) (by simpa [eqOk] using o2) rs rs2 rv rv2 (by show A.units + 1 + n + 1 < cLine; omega)
        have rc : RcAt A s (.ref a) (.ref b) (pyEqs ds es) := by
          have z := RcAt.tuples (A := A) (e := fun j => pairE ds es j) hi hi2 (by omega) (fun j h1 h2 => by
            have := he j (by simpa using h1) (by simpa using h2)
            simpa using this)
          have e2 : ((List.range (min its.toArray.size its2.toArray.size)).all (fun j => pairE ds es j) && its.toArray.size == its2.toArray.size) = pyEqs ds es := by
            rw [List.size_toArray, List.size_toArray, ← n1, ← n2]
            by_cases hsz : ds.length = es.length
            · rw [← pyEqs_all hsz, hsz]; simp
            · rw [pyEqs_len hsz]; simp [hsz]
          rw [e2] at z; exact z
        refine ⟨rc, ?_⟩
        by_cases hab : a = b
        · subst hab
          have := eq_same I hC hF _ _ (n + 1) _ f1 f2 o1 o2 r1' r2'
          rw [this]; exact EqAt.same _
        · exact EqAt.of_refs hab rc
theorem rc_reps (I : Inv X pins σ H s) (hC : C.At X) (hF : Fr C H) : ∀ (ds es : List D) (n : Nat) (A : Around) (vs ws : List V) (f1 f2 : List Addr) (us us' : List Value), eqOks n ds = true → eqOks n es = true → Reps C H ds vs f1 → Reps C H es ws f2 → Vals vs us → Vals ws us' → A.units + n + 1 < cLine →
    ∀ j (h1 : j < us.length) (h2 : j < us'.length), EqAt A s us[j] us'[j] (pairE ds es j)
  | [], es, n, A, vs, ws, f1, f2, us, us', o1, o2, r1, r2, q1, q2, hu => fun j h1 h2 => by
    have := reps_vals r1 q1
    simp at this; omega
  | d :: ds, [], n, A, vs, ws, f1, f2, us, us', o1, o2, r1, r2, q1, q2, hu => fun j h1 h2 => by
    have := reps_vals r2 q2
    simp at this; omega
  | d :: ds, e :: es, n, A, vs, ws, f1, f2, us, us', o1, o2, ⟨v, vs', g1, g2, e1, r1, rs1, _⟩, ⟨w, ws', k1, k2, e2, r2, rs2, _⟩, q1, q2, hu => fun j h1 h2 => by
    subst e1 e2
    simp only [eqOks, Bool.and_eq_true] at o1 o2
    cases q1 with
    | cons p1 q1 =>
      cases q2 with
      | cons p2 q2 =>
        cases j with
        | zero => exact (rc_rep I hC hF d e n A v w g1 k1 _ _ o1.1 o2.1 r1 r2 p1 p2 hu).2
        | succ j =>
          have := rc_reps I hC hF ds es n A vs' ws' g2 k2 _ _ o1.2 o2.2 rs1 rs2 q1 q2 hu j (by simpa using h1) (by simpa using h2)
          simpa [pairE] using this
end
end
def pEq (d e : D) : Option D := if eqOk 40 d && eqOk 40 e then some (.bl (pyEq d e)) else none
def pNe (d e : D) : Option D := if eqOk 40 d && eqOk 40 e then some (.bl (!pyEq d e)) else none
theorem pEq_inv {d e z} (h : pEq d e = some z) : eqOk 40 d = true ∧ eqOk 40 e = true ∧ z = .bl (pyEq d e) := by
  unfold pEq at h
  split at h
  · rename_i q; cases h; have := Bool.and_eq_true_iff.mp q; exact ⟨this.1, this.2, rfl⟩
  · cases h
theorem pNe_inv {d e z} (h : pNe d e = some z) : eqOk 40 d = true ∧ eqOk 40 e = true ∧ z = .bl (!pyEq d e) := by
  unfold pNe at h
  split at h
  · rename_i q; cases h; have := Bool.and_eq_true_iff.mp q; exact ⟨this.1, this.2, rfl⟩
  · cases h
theorem od_eq {k : Nat} (hr : Room k X.A) : OD2 X (compareOp .Eq) pEq := by
  intro pins s σ H x y v u Q I rx ry ⟨C, dx, dy, fx, fy, d, hC, hF, r1, r2, e, kk⟩
  obtain ⟨o1, o2, rfl⟩ := pEq_inv e
  have := (rc_rep I hC hF dx dy 40 X.A x y fx fy v u o1 o2 r1 r2 rx ry (by have := hr.units; omega)).1
  exact this X.prog X.w X.xe _ ⟨.bl _, H, I, rfl, kk.here ⟨rfl, rfl⟩⟩
end
end VS

set_option maxRecDepth 100000
namespace VS
open PySem L2 SeqAt
section
variable {X : Cx} {W : WX} {M M1 M2 M3 Rs R1 R2 R3 : List Nat} {e a b c : Expr} {es : List Expr} {ca cb cc : CE} {cs : CA} {pos : Pos}
variable {pins : List (Addr × Obj)} {σ : St} {H : Hp} {s : Shared} {C : Ctx}
theorem rcne_rep (I : Inv X pins σ H s) (hC : C.At X) (hF : Fr C H) : ∀ (d e : D) (n : Nat) (A : Around) (v w : V) (f1 f2 : List Addr) (u u' : Value), eqOk n d = true → eqOk n e = true → Rep C H d v f1 → Rep C H e w f2 → RelV v u → RelV w u' → A.units + n + 1 < cLine →
    RcNeAt A s u u' (!pyEq d e)
  | .ty i, e, n, A, v, w, f1, f2, u, u', o1, o2, r1, r2, q1, q2, hu => by simp [eqOk] at o1
  | .dct _ _ _, e, n, A, v, w, f1, f2, u, u', o1, o2, r1, r2, q1, q2, hu => by simp [eqOk] at o1
  | .obj _ _ _ _, e, n, A, v, w, f1, f2, u, u', o1, o2, r1, r2, q1, q2, hu => by simp [eqOk] at o1
  | .non, e, n, A, v, w, f1, f2, u, u', o1, o2, r1, r2, q1, q2, hu => by
    obtain ⟨rfl, _⟩ := r1
    cases (show u = Value.none from q1)
    cases e with
    | non => obtain ⟨rfl, _⟩ := r2; cases (show u' = Value.none from q2); exact RcNeAt.none_none
    | bl b => obtain ⟨rfl, _⟩ := r2; cases (show u' = Value.bool b from q2); exact RcNeAt.none_bool b
    | int j => obtain ⟨rfl, _⟩ := r2; obtain ⟨t, rfl⟩ := q2; exact RcNeAt.none_int j t
    | str j => obtain ⟨rfl, _⟩ := r2; obtain ⟨t, rfl⟩ := q2; exact RcNeAt.none_str j t
    | lst g es =>
      obtain ⟨a, vs, f, rfl, q, rs⟩ := rep_list hC hF r2
      cases (show u' = Value.ref a from q2)
      obtain ⟨its, _, p, _⟩ := I.list q
      exact RcNeAt.none_list p.isList (by omega)
    | tup es =>
      obtain ⟨a, vs, rfl, q, rs⟩ := rep_tup hC r2
      cases (show u' = Value.ref a from q2)
      obtain ⟨its, _, p, _⟩ := I.tuple q
      exact RcNeAt.none_tuple p (by omega)
    | ty _ => simp [eqOk] at o2
    | dct _ _ _ => simp [eqOk] at o2
    | obj _ _ _ _ => simp [eqOk] at o2
  | .bl x, e, n, A, v, w, f1, f2, u, u', o1, o2, r1, r2, q1, q2, hu => by
    obtain ⟨rfl, _⟩ := r1
    cases (show u = Value.bool x from q1)
    cases e with
    | non => obtain ⟨rfl, _⟩ := r2; cases (show u' = Value.none from q2); exact RcNeAt.bool_none x
    | bl b => obtain ⟨rfl, _⟩ := r2; cases (show u' = Value.bool b from q2); exact RcNeAt.bool_bool x b
    | int j => obtain ⟨rfl, _⟩ := r2; obtain ⟨t, rfl⟩ := q2; exact RcNeAt.bool_int x j t
    | str j => obtain ⟨rfl, _⟩ := r2; obtain ⟨t, rfl⟩ := q2; exact RcNeAt.bool_str x j t
    | lst g es =>
      obtain ⟨a, vs, f, rfl, q, rs⟩ := rep_list hC hF r2
      cases (show u' = Value.ref a from q2)
      obtain ⟨its, _, p, _⟩ := I.list q
      exact RcNeAt.bool_list x p.isList (by omega)
    | tup es =>
      obtain ⟨a, vs, rfl, q, rs⟩ := rep_tup hC r2
      cases (show u' = Value.ref a from q2)
      obtain ⟨its, _, p, _⟩ := I.tuple q
      exact RcNeAt.bool_tuple x p (by omega)
    | ty _ => simp [eqOk] at o2
    | dct _ _ _ => simp [eqOk] at o2
    | obj _ _ _ _ => simp [eqOk] at o2
  | .int x, e, n, A, v, w, f1, f2, u, u', o1, o2, r1, r2, q1, q2, hu => by
    obtain ⟨rfl, _⟩ := r1
    obtain ⟨t0, rfl⟩ := q1
    cases e with
    | non => obtain ⟨rfl, _⟩ := r2; cases (show u' = Value.none from q2); exact RcNeAt.int_none x t0
    | bl b => obtain ⟨rfl, _⟩ := r2; cases (show u' = Value.bool b from q2); exact RcNeAt.int_bool x t0 b
    | int j => obtain ⟨rfl, _⟩ := r2; obtain ⟨t, rfl⟩ := q2; exact RcNeAt.int_int x t0 j t
    | str j => obtain ⟨rfl, _⟩ := r2; obtain ⟨t, rfl⟩ := q2; exact RcNeAt.int_str x t0 j t
    | lst g es =>
      obtain ⟨a, vs, f, rfl, q, rs⟩ := rep_list hC hF r2
      cases (show u' = Value.ref a from q2)
      obtain ⟨its, _, p, _⟩ := I.list q
      exact RcNeAt.int_list x t0 p.isList (by omega)
    | tup es =>
      obtain ⟨a, vs, rfl, q, rs⟩ := rep_tup hC r2
      cases (show u' = Value.ref a from q2)
      obtain ⟨its, _, p, _⟩ := I.tuple q
      exact RcNeAt.int_tuple x t0 p (by omega)
    | ty _ => simp [eqOk] at o2
    | dct _ _ _ => simp [eqOk] at o2
    | obj _ _ _ _ => simp [eqOk] at o2
  | .str x, e, n, A, v, w, f1, f2, u, u', o1, o2, r1, r2, q1, q2, hu => by
    obtain ⟨rfl, _⟩ := r1
    obtain ⟨t0, rfl⟩ := q1
    cases e with
    | non => obtain ⟨rfl, _⟩ := r2; cases (show u' = Value.none from q2); exact RcNeAt.str_none x t0
    | bl b => obtain ⟨rfl, _⟩ := r2; cases (show u' = Value.bool b from q2); exact RcNeAt.str_bool x t0 b
    | int j => obtain ⟨rfl, _⟩ := r2; obtain ⟨t, rfl⟩ := q2; exact RcNeAt.str_int x t0 j t
    | str j => obtain ⟨rfl, _⟩ := r2; obtain ⟨t, rfl⟩ := q2; exact RcNeAt.str_str x t0 j t
    | lst g es =>
      obtain ⟨a, vs, f, rfl, q, rs⟩ := rep_list hC hF r2
      cases (show u' = Value.ref a from q2)
      obtain ⟨its, _, p, _⟩ := I.list q
      exact RcNeAt.str_list x t0 p.isList (by omega)
    | tup es =>
      obtain ⟨a, vs, rfl, q, rs⟩ := rep_tup hC r2
      cases (show u' = Value.ref a from q2)
      obtain ⟨its, _, p, _⟩ := I.tuple q
      exact RcNeAt.str_tuple x t0 p (by omega)
    | ty _ => simp [eqOk] at o2
    | dct _ _ _ => simp [eqOk] at o2
    | obj _ _ _ _ => simp [eqOk] at o2
  | .lst g ds, e, n, A, v, w, f1, f2, u, u', o1, o2, r1, r2, q1, q2, hu => by
    have r1' := r1
    have r2' := r2
    have q2' := q2
    obtain ⟨a, vs, f, rfl, q, rs⟩ := rep_list hC hF r1
    cases (show u = Value.ref a from q1)
    obtain ⟨its, rv, p, _⟩ := I.list q
    have hi := p.isList
    cases e with
    | non => obtain ⟨rfl, _⟩ := r2; cases (show u' = Value.none from q2); exact RcNeAt.list_none hi (by omega)
    | bl b => obtain ⟨rfl, _⟩ := r2; cases (show u' = Value.bool b from q2); exact RcNeAt.list_bool b hi (by omega)
    | int j => obtain ⟨rfl, _⟩ := r2; obtain ⟨t, rfl⟩ := q2; exact RcNeAt.list_int j t hi (by omega)
    | str j => obtain ⟨rfl, _⟩ := r2; obtain ⟨t, rfl⟩ := q2; exact RcNeAt.list_str j t hi (by omega)
    | tup es =>
      obtain ⟨b, ws, rfl, k, rs2⟩ := rep_tup hC r2
      cases (show u' = Value.ref b from q2)
      obtain ⟨its2, _, p2, _⟩ := I.tuple k
      exact RcNeAt.list_tuple hi p2 (by omega)
    | ty _ => simp [eqOk] at o2
    | dct _ _ _ => simp [eqOk] at o2
    | obj _ _ _ _ => simp [eqOk] at o2
    | lst g2 es =>
      cases n with
      | zero => simp [eqOk] at o1
      | succ n =>
        obtain ⟨b, ws, f', rfl, k, rs2⟩ := rep_list hC hF r2
        cases (show u' = Value.ref b from q2)
        obtain ⟨its2, rv2, p2, _⟩ := I.list k
        have hi2 := p2.isList
        have n1 := reps_vals rs rv
        have n2 := reps_vals rs2 rv2
        have he := rc_reps I hC hF ds es n A.in1 vs ws f f' its its2 (by simpa [eqOk] using o1) (by simpa [eqOk] using o2) rs rs2 rv rv2 (by show A.units + 1 + n + 1 < cLine; omega)
        show RcNeAt A s (.ref a) (.ref b) (!pyEqs ds es)
        by_cases hsz : ds.length = es.length
        · rw [← pyEqs_all hsz, n1]
          have := RcNeAt.lists (A := A) (e := fun j => pairE ds es j) hi hi2 (by simp; omega) (by omega) (fun j h1 h2 => by
            have := he j (by simpa using h1) (by simpa using h2)
            simpa using this)
          simpa using this
        · rw [pyEqs_len hsz]
          exact RcNeAt.lists_lengths hi hi2 (by simp; omega) (by omega)
  | .tup ds, e, n, A, v, w, f1, f2, u, u', o1, o2, r1, r2, q1, q2, hu => by
    have r1' := r1
    have r2' := r2
    obtain ⟨a, vs, rfl, q, rs⟩ := rep_tup hC r1
    cases (show u = Value.ref a from q1)
    obtain ⟨its, rv, p, _⟩ := I.tuple q
    have hi : s.heap.IsTuple a its.toArray := p
    cases e with
    | non => obtain ⟨rfl, _⟩ := r2; cases (show u' = Value.none from q2); exact RcNeAt.tuple_none hi (by omega)
    | bl b => obtain ⟨rfl, _⟩ := r2; cases (show u' = Value.bool b from q2); exact RcNeAt.tuple_bool b hi (by omega)
    | int j => obtain ⟨rfl, _⟩ := r2; obtain ⟨t, rfl⟩ := q2; exact RcNeAt.tuple_int j t hi (by omega)
    | str j => obtain ⟨rfl, _⟩ := r2; obtain ⟨t, rfl⟩ := q2; exact RcNeAt.tuple_str j t hi (by omega)
    | lst g es =>
      obtain ⟨b, ws, f, rfl, k, rs2⟩ := rep_list hC hF r2
      cases (show u' = Value.ref b from q2)
      obtain ⟨its2, _, p2, _⟩ := I.list k
      exact RcNeAt.tuple_list hi p2.isList (by omega)
    | ty _ => simp [eqOk] at o2
    | dct _ _ _ => simp [eqOk] at o2
    | obj _ _ _ _ => simp [eqOk] at o2
    | tup es =>
      cases n with
      | zero => simp [eqOk] at o1
      | succ n =>
        obtain ⟨b, ws, rfl, k, rs2⟩ := rep_tup hC r2
        cases (show u' = Value.ref b from q2)
        obtain ⟨its2, rv2, p2, _⟩ := I.tuple k
        have hi2 : s.heap.IsTuple b its2.toArray := p2
        have n1 := reps_vals rs rv
        have n2 := reps_vals rs2 rv2
        have he := rc_reps I hC hF ds es n A.in1 vs ws f1 f2 its its2 (by simpa [eqOk] using o1) (by simpa [eqOk] using o2) rs rs2 rv rv2 (by show A.units + 1 + n + 1 < cLine; omega)
        show RcNeAt A s (.ref a) (.ref b) (!pyEqs ds es)
        have z := RcNeAt.tuples (A := A) (e := fun j => pairE ds es j) hi hi2 (by omega) (fun j h1 h2 => by
          have := he j (by simpa using h1) (by simpa using h2)
          simpa using this)
        have e2 : ((List.range (min its.toArray.size its2.toArray.size)).all (fun j => pairE ds es j) && its.toArray.size == its2.toArray.size) = pyEqs ds es := by
          rw [List.size_toArray, List.size_toArray, ← n1, ← n2]
          by_cases hsz : ds.length = es.length
          · rw [← pyEqs_all hsz, hsz]; simp
          · rw [pyEqs_len hsz]; simp [hsz]
        rw [e2] at z; exact z

theorem od_ne {k : Nat} (hr : Room k X.A) : OD2 X (compareOp .NotEq) pNe := by
  intro pins s σ H x y v u Q I rx ry ⟨C, dx, dy, fx, fy, d, hC, hF, r1, r2, e, kk⟩
  obtain ⟨o1, o2, rfl⟩ := pNe_inv e
  have := rcne_rep I hC hF dx dy 40 X.A x y fx fy v u o1 o2 r1 r2 rx ry (by have := hr.units; omega)
  exact this X.prog X.w X.xe _ ⟨.bl _, H, I, rfl, kk.here ⟨rfl, rfl⟩⟩

/-! ### is -/
def pIs : D → D → Option D
  | .non, .non => some (.bl true)
  | .bl a, .bl b => some (.bl (decide (a = b)))
  | .tup _, .non => some (.bl false)
  | .lst _ _, .non => some (.bl false)
  | .dct _ _ _, .non => some (.bl false)
  | .obj _ _ _ _, .non => some (.bl false)
  | .int _, .non => some (.bl false)
  | .str _, .non => some (.bl false)
  | .bl _, .non => some (.bl false)
  | _, _ => none
def pIsNot (d e : D) : Option D := match pIs d e with
  | some (.bl b) => some (.bl (!b))
  | _ => none
def rIs (neg : Bool) : L2.R2 := fun x y H Q => (y = .non ∧ Q (.bl (if neg then !decide (x = .non) else decide (x = .non))) H) ∨ ∃ a b, x = .bl a ∧ y = .bl b ∧ Q (.bl (if neg then !decide (a = b) else decide (a = b))) H
theorem op_is2 : OpR X (compareOp .Is) (rIs false) := OpR.or op_isN (by
  intro pins s σ H x y v u Q I rx ry ⟨a, b, e1, e2, q⟩
  exact op_is_bl pins s σ H x y v u Q I rx ry ⟨a, b, e1, e2, q⟩)
theorem op_isnot2 : OpR X (compareOp .IsNot) (rIs true) := OpR.or op_notN (by
  intro pins s σ H x y v u Q I rx ry ⟨a, b, e1, e2, q⟩
  exact op_isnot_bl pins s σ H x y v u Q I rx ry ⟨a, b, e1, e2, q⟩)
theorem pIs_cases {C : Ctx} {H : Hp} {dx dy d : D} {x y : V} {fx fy} (e : pIs dx dy = some d) (r1 : Rep C H dx x fx) (r2 : Rep C H dy y fy) :
    ∃ k, d = .bl k ∧ ((y = .non ∧ k = decide (x = .non)) ∨ ∃ a b, x = .bl a ∧ y = .bl b ∧ k = decide (a = b)) := by
  cases dx <;> cases dy <;> simp [pIs] at e <;> subst e
  case non.non => obtain ⟨rfl, _⟩ := r1; obtain ⟨rfl, _⟩ := r2; exact ⟨_, rfl, .inl ⟨rfl, by simp⟩⟩
  case bl.bl a b => obtain ⟨rfl, _⟩ := r1; obtain ⟨rfl, _⟩ := r2; exact ⟨_, rfl, .inr ⟨a, b, rfl, rfl, by first | rfl | simp⟩⟩
  case bl.non => obtain ⟨rfl, _⟩ := r1; obtain ⟨rfl, _⟩ := r2; exact ⟨_, rfl, .inl ⟨rfl, by simp⟩⟩
  case int.non => obtain ⟨rfl, _⟩ := r1; obtain ⟨rfl, _⟩ := r2; exact ⟨_, rfl, .inl ⟨rfl, by simp⟩⟩
  case str.non => obtain ⟨rfl, _⟩ := r1; obtain ⟨rfl, _⟩ := r2; exact ⟨_, rfl, .inl ⟨rfl, by simp⟩⟩
  case tup.non => obtain ⟨a, vs, rfl, _⟩ := r1; obtain ⟨rfl, _⟩ := r2; exact ⟨_, rfl, .inl ⟨rfl, by simp⟩⟩
  case lst.non => obtain ⟨a, vs, f1, f2, rfl, _⟩ := r1; obtain ⟨rfl, _⟩ := r2; exact ⟨_, rfl, .inl ⟨rfl, by simp⟩⟩
  case dct.non => obtain ⟨a, vs, f1, f2, rfl, _⟩ := r1; obtain ⟨rfl, _⟩ := r2; exact ⟨_, rfl, .inl ⟨rfl, by simp⟩⟩
  case obj.non => obtain ⟨a, _, _, _, _, _, rfl, _⟩ := r1; obtain ⟨rfl, _⟩ := r2; exact ⟨_, rfl, .inl ⟨rfl, by simp⟩⟩
theorem od_is : OD2 X (compareOp .Is) pIs := by
  refine OD2.of op_is2 fun x y H Q ⟨C, dx, dy, fx, fy, d, hC, hF, r1, r2, e, k⟩ => ?_
  obtain ⟨b, rfl, ⟨h1, h2⟩ | ⟨a, a', h1, h2, h3⟩⟩ := pIs_cases e r1 r2
  · refine .inl ⟨h1, ?_⟩
    rw [if_neg (by simp), ← h2]
    exact k.here ⟨rfl, rfl⟩
  · refine .inr ⟨a, a', h1, h2, ?_⟩
    rw [if_neg (by simp), ← h3]
    exact k.here ⟨rfl, rfl⟩
theorem od_isnot : OD2 X (compareOp .IsNot) pIsNot := by
  refine OD2.of op_isnot2 fun x y H Q ⟨C, dx, dy, fx, fy, d, hC, hF, r1, r2, e, k⟩ => ?_
  unfold pIsNot at e
  cases e1 : pIs dx dy with
  | none => rw [e1] at e; cases e
  | some z =>
    obtain ⟨b, rfl, ⟨h1, h2⟩ | ⟨a, a', h1, h2, h3⟩⟩ := pIs_cases e1 r1 r2
    · rw [e1] at e; cases e
      refine .inl ⟨h1, ?_⟩
      rw [if_pos rfl, ← h2]
      exact k.here ⟨rfl, rfl⟩
    · rw [e1] at e; cases e
      refine .inr ⟨a, a', h1, h2, ?_⟩
      rw [if_pos rfl, ← h3]
      exact k.here ⟨rfl, rfl⟩

/-! ### chains of two comparisons: the middle one an int name or number -/
def cChain (p q : D → D → Option D) (ca cb cc : CE) : CE := fun env => (cTwo ca cb env).bind fun xy env => match p xy.1 xy.2 with
  | some (.bl true) => (cc env).bind fun z env => R.of (q xy.2 z) env
  | some (.bl false) => .ok (.bl false) env
  | _ => .err
theorem chain_go {op op' : CmpOp} {p q : D → D → Option D} (ho : OD2 X (compareOp op) p) (ho' : OD2 X (compareOp op') q) (ha : SB X W M1 R1 a ca) (hb : SB X W M2 R2 b cb) (hc : SB X W M3 R3 c cc)
    (hd : djB R1 M2 = true) (hd2 : djB R2 M3 = true) :
    ∃ ta tb tc, PE X a ta ∧ PE X b tb ∧ PE X c tc ∧ ∀ C fs env σ H tf Q, C.At X → Good C fs env σ H tf → PostO W C (M1 ++ M2 ++ M3) tf fs env σ H Q (cChain p q ca cb cc env) → tChain (rD2 X p) (rD2 X q) ta tb tc σ H Q := by
  obtain ⟨ta, tb, pa, pb, h2⟩ := two_go ha hb hd
  obtain ⟨tc, pc, h3⟩ := hc.go
  refine ⟨ta, tb, tc, pa, pb, pc, fun C fs env σ H tf Q hC G po => ?_⟩
  show ta σ H fun x H1 => tb σ H1 fun y H2 => _
  refine h2 C fs env σ H tf _ hC G ?_
  unfold cChain at po
  cases e1 : cTwo ca cb env with
  | err => rw [e1] at po; exact po
  | ex x env' => rw [e1] at po; exact fun cv dd fs' H' G' s => po cv dd fs' H' G' (s.weak (fun i hi => List.mem_append_left _ hi) fun _ z => z)
  | ok xy env1 =>
    rw [e1] at po
    intro x y fs1 H1 f1 f2 own G1 s1 r1 r2 i1 i2
    have po' : PostO W C (M1 ++ M2 ++ M3) tf fs env σ H Q (match p xy.1 xy.2 with
      | some (.bl true) => (cc env1).bind fun z env => R.of (q xy.2 z) env
      | some (.bl false) => .ok (.bl false) env1
      | _ => .err) := po
    cases e2 : p xy.1 xy.2 with
    | none => rw [e2] at po'; exact po'.elim
    | some z =>
      cases z with
      | bl k =>
        cases k with
        | false =>
          rw [e2] at po'
          refine ⟨C, xy.1, xy.2, f1, f2, .bl false, hC, G1.fr, r1, r2, e2, fun v H2 fp le rv nd nw => ?_⟩
          obtain ⟨rfl, hf⟩ := rv
          refine ⟨false, rfl, ?_⟩
          rw [if_neg Bool.false_ne_true]
          refine po' (.bl false) fs1 H2 [] (by simpa using G1.drop.le' le) ?_ ⟨rfl, rfl⟩
          have := (s1.trans (Step.grow (M := []) G1.drop le)).weak (M' := M1 ++ M2 ++ M3) (fun i hi => by simp at hi; simp [hi]; rcases hi with h | h <;> simp [h]) fun _ z => z
          exact this
        | true =>
          rw [e2] at po'
          refine ⟨C, xy.1, xy.2, f1, f2, .bl true, hC, G1.fr, r1, r2, e2, fun v H2 fp le rv nd nw => ?_⟩
          obtain ⟨rfl, hf⟩ := rv
          refine ⟨true, rfl, ?_⟩
          rw [if_pos rfl]
          have G2 := G1.le' le
          have s2 := s1.trans (Step.grow (M := []) G1.drop le)
          refine h3 C fs1 env1 σ H2 (own ++ tf) _ hC G2 ?_
          have po2 : PostO W C (M1 ++ M2 ++ M3) tf fs env σ H Q ((cc env1).bind fun z env => R.of (q xy.2 z) env) := po'
          have wk : ∀ {fs' env' H'}, Step M3 (own ++ tf) fs1 env1 H2 fs' env' H' → Step (M1 ++ M2 ++ M3) tf fs env H fs' env' H' := fun {fs' env' H'} s => by
            have := s2.trans (s.weak (fun _ z => z) fun x hx => List.mem_append_right _ hx)
            refine this.weak (fun i hi => ?_) fun _ z => z
            simpa using hi
          cases e3 : cc env1 with
          | err => rw [e3] at po2; exact po2
          | ex x env' => rw [e3] at po2; exact fun cv dd fs' H' G' s => po2 cv dd fs' H' G'.drop (wk s)
          | ok z env2 =>
            rw [e3] at po2
            intro zv fs3 H3 f3 own3 G3 s3 r3 i3
            have po3 : PostO W C (M1 ++ M2 ++ M3) tf fs env σ H Q (R.of (q xy.2 z) env2) := po2
            cases e4 : q xy.2 z with
            | none => rw [e4] at po3; exact po3.elim
            | some zz =>
              rw [e4] at po3
              have G3' : Good C fs3 env2 σ H3 ((own3 ++ own) ++ tf) := by rw [List.append_assoc]; exact G3
              have k2 := i2.keep s3 (djB_ok hd2)
              have r2' : Rep C H3 xy.2 y f2 := (r2.le le).keep k2 s3.m
              exact ⟨C, xy.2, z, f2, f3, zz, hC, G3.fr, r2', r3, e4, comes_post G3' (wk s3) po3⟩
      | _ => rw [e2] at po'; exact po'.elim
theorem so_chain {op op' : CmpOp} {p q : D → D → Option D} (ho : OD2 X (compareOp op) p) (ho' : OD2 X (compareOp op') q) (ha : SB X W M1 R1 a ca) (hb : SB X W M2 R2 b cb) (hc : SB X W M3 R3 c cc)
    (hd : djB R1 M2 = true := by decide) (hd2 : djB R2 M3 = true := by decide) (hm : lastMarks [op, op'] [b, c] = false := by with_unfolding_all rfl) : SO X W (M1 ++ M2 ++ M3) (.Compare a [op, op'] [b, c] pos) (cChain p q ca cb cc) := by
  obtain ⟨ta, tb, tc, pa, pb, pc, h⟩ := chain_go ho ho' ha hb hc hd hd2
  exact ⟨_, pe_chain ho ho' pa pb pc hm, h⟩
theorem st_chain {op op' : CmpOp} {p q : D → D → Option D} (ho : OD2 X (compareOp op) p) (ho' : OD2 X (compareOp op') q) (ha : SB X W M1 R1 a ca) (hb : SB X W M2 R2 b cb) (hc : SB X W M3 R3 c cc)
    (hd : djB R1 M2 = true := by decide) (hd2 : djB R2 M3 = true := by decide) (hm : lastMarks [op, op'] [b, c] = false := by with_unfolding_all rfl) : ST X W (M1 ++ M2 ++ M3) (.Compare a [op, op'] [b, c] pos) (cTt (cChain p q ca cb cc)) := by
  obtain ⟨ta, tb, tc, pa, pb, pc, h⟩ := chain_go ho ho' ha hb hc hd hd2
  exact st_tt (Rs := []) (t := tChain (rD2 X p) (rD2 X q) ta tb tc) (pt_chain ho ho' pa pb pc hm) fun C fs env σ H tf Q hC G po => h C fs env σ H tf Q hC G (post_ob po)

/-! ### and, or, not as values; a if t else b -/
def cAnd (ca cb : CE) : CE := fun env => (ca env).bind fun d env => match d with
  | .bl true => cb env
  | .bl false => .ok (.bl false) env
  | _ => .err
def cOr (ca cb : CE) : CE := fun env => (ca env).bind fun d env => match d with
  | .bl true => .ok (.bl true) env
  | .bl false => cb env
  | _ => .err
def cNot (ca : CE) : CE := fun env => (ca env).bind fun d env => match d with
  | .bl b => .ok (.bl (!b)) env
  | _ => .err
/-- one owned thing, then another step -/
theorem seqO {fs : FPs} {env : Env} {H : Hp} {tf : List Addr} {Q : VK} {f : D → CE} {t : TE} (hC : C.At X) (G : Good C fs env σ H tf)
    (ht : ∀ C fs env σ H tf Q, C.At X → Good C fs env σ H tf → PostB W C M1 R1 tf fs env σ H Q (ca env) → t σ H Q)
    (po : PostO W C (M1 ++ M2) tf fs env σ H Q ((ca env).bind f)) {K : VK}
    (hK : ∀ d v fs1 env1 H1 fp own, Good C fs1 env1 σ H1 (own ++ tf) → Step M1 tf fs env H fs1 env1 H1 → Rep C H1 d v fp → In R1 own fs1 fp → PostO W C (M1 ++ M2) tf fs env σ H Q (f d env1) → K v H1) : t σ H K := by
  refine ht C fs env σ H tf _ hC G ?_
  cases e1 : ca env with
  | err => rw [e1] at po; exact po
  | ex x env' =>
    rw [e1] at po
    exact fun cv dd fs' H' G' s => po cv dd fs' H' G' (s.weak (fun i hi => List.mem_append_left _ hi) fun _ z => z)
  | ok d env1 =>
    rw [e1] at po
    exact fun v fs1 H1 fp own G1 s1 r1 i1 => hK d v fs1 env1 H1 fp own G1 s1 r1 i1 po
theorem PostO.step {fs fs1 : FPs} {env env1 : Env} {H H1 : Hp} {tf : List Addr} {Q : VK} {z : R D} (s1 : Step M1 tf fs env H fs1 env1 H1) (po : PostO W C (M1 ++ M2) tf fs env σ H Q z) : PostO W C M2 tf fs1 env1 σ H1 Q z := by
  cases z with
  | err => exact po
  | ex x env' => exact fun cv dd fs' H' G' s => po cv dd fs' H' G' (s1.trans s)
  | ok d env' => exact fun v fs' H' fp G' s r => po v fs' H' fp G' (s1.trans s) r
theorem PostO.done {fs fs1 : FPs} {env env1 : Env} {H H1 : Hp} {tf : List Addr} {Q : VK} {d : D} {v : V} (s1 : Step M1 tf fs env H fs1 env1 H1) (po : PostO W C (M1 ++ M2) tf fs env σ H Q (.ok d env1)) (G1 : Good C fs1 env1 σ H1 tf) (r : Rep C H1 d v []) : Q v H1 :=
  po v fs1 H1 [] (by simpa using G1) (s1.weak (fun i hi => List.mem_append_left _ hi) fun _ z => z) r
theorem so_and (ha : SB X W M1 R1 a ca) (hb : SO X W M2 (.BoolOp .And (b :: es) pos) cb) : SO X W (M1 ++ M2) (.BoolOp .And (a :: b :: es) pos) (cAnd ca cb) := by
  obtain ⟨t, p, q⟩ := ha.go
  obtain ⟨t2, p2, q2⟩ := hb.go
  refine ⟨tAndV t t2, pe_and p p2, fun C fs env σ H tf Q hC G po => ?_⟩
  refine seqO (M1 := M1) (M2 := M2) (R1 := R1) (ca := ca) hC G q po fun d v fs1 env1 H1 fp own G1 s1 r1 i1 po1 => ?_
  cases d with
  | bl k =>
    obtain ⟨rfl, _⟩ := r1
    refine ⟨k, rfl, ?_⟩
    cases k with
    | true => exact q2 C fs1 env1 σ H1 tf Q hC G1.drop (po1.step s1)
    | false => exact po1.done s1 G1.drop ⟨rfl, rfl⟩
  | _ => exact po1.elim
theorem so_or (ha : SB X W M1 R1 a ca) (hb : SO X W M2 (.BoolOp .Or (b :: es) pos) cb) : SO X W (M1 ++ M2) (.BoolOp .Or (a :: b :: es) pos) (cOr ca cb) := by
  obtain ⟨t, p, q⟩ := ha.go
  obtain ⟨t2, p2, q2⟩ := hb.go
  refine ⟨tOrV t t2, pe_or p p2, fun C fs env σ H tf Q hC G po => ?_⟩
  refine seqO (M1 := M1) (M2 := M2) (R1 := R1) (ca := ca) hC G q po fun d v fs1 env1 H1 fp own G1 s1 r1 i1 po1 => ?_
  cases d with
  | bl k =>
    obtain ⟨rfl, _⟩ := r1
    refine ⟨k, rfl, ?_⟩
    cases k with
    | false => exact q2 C fs1 env1 σ H1 tf Q hC G1.drop (po1.step s1)
    | true => exact po1.done s1 G1.drop ⟨rfl, rfl⟩
  | _ => exact po1.elim
theorem so_one {op} (ha : SO X W M1 a ca) : SO X W M1 (.BoolOp op [a] pos) ca := by
  obtain ⟨t, p, q⟩ := ha.go
  exact ⟨t, pe_one p, q⟩
theorem so_not (ha : SB X W M1 R1 a ca) : SO X W M1 (.UnaryOp .Not a pos) (cNot ca) := by
  obtain ⟨t, p, q⟩ := ha.go
  refine ⟨tNotV t, pe_not p, fun C fs env σ H tf Q hC G po => ?_⟩
  refine seqO (M1 := M1) (M2 := []) (R1 := R1) (ca := ca) hC G q (by rw [List.append_nil]; exact po) fun d v fs1 env1 H1 fp own G1 s1 r1 i1 po1 => ?_
  cases d with
  | bl k =>
    obtain ⟨rfl, _⟩ := r1
    exact ⟨k, rfl, po1.done s1 G1.drop ⟨rfl, rfl⟩⟩
  | _ => exact po1.elim
def cIf (ct : CT) (ca cb : CE) : CE := fun env => (ct env).bind fun k env => if k = true then ca env else cb env
variable {ct : CT}
theorem so_ifE (hc : ST X W M1 c ct) (ha : SO X W M2 a ca) (hb : SO X W M3 b cb) : SO X W (M1 ++ (M2 ++ M3)) (.IfExp c a b pos) (cIf ct ca cb) := by
  obtain ⟨t, p, q⟩ := hc.go
  obtain ⟨t2, p2, q2⟩ := ha.go
  obtain ⟨t3, p3, q3⟩ := hb.go
  refine ⟨tIf t t2 t3, pe_ifExp p p2 p3, fun C fs env σ H tf Q hC G po => q C fs env σ H tf _ hC G ?_⟩
  unfold cIf at po
  cases e1 : ct env with
  | err => rw [e1] at po; exact po
  | ex x env' => rw [e1] at po; exact fun cv dd fs' H' G' s => po cv dd fs' H' G' (s.weak (fun i hi => List.mem_append_left _ hi) fun _ z => z)
  | ok k env1 =>
    rw [e1] at po
    intro fs1 H1 G1 s1
    have po1 : PostO W C (M1 ++ (M2 ++ M3)) tf fs env σ H Q (if k = true then ca env1 else cb env1) := po
    cases k with
    | true =>
      refine q2 C fs1 env1 σ H1 tf Q hC G1 ?_
      have := PostO.step (M2 := M2 ++ M3) s1 po1
      rw [if_pos rfl] at this
      cases z : ca env1 with
      | err => rw [z] at this; exact this
      | ex x env' => rw [z] at this; exact fun cv dd fs' H' G' s => this cv dd fs' H' G' (s.weak (fun i hi => List.mem_append_left _ hi) fun _ z => z)
      | ok d env' => rw [z] at this; exact fun v fs' H' fp G' s r => this v fs' H' fp G' (s.weak (fun i hi => List.mem_append_left _ hi) fun _ z => z) r
    | false =>
      refine q3 C fs1 env1 σ H1 tf Q hC G1 ?_
      have := PostO.step (M2 := M2 ++ M3) s1 po1
      rw [if_neg Bool.false_ne_true] at this
      cases z : cb env1 with
      | err => rw [z] at this; exact this
      | ex x env' => rw [z] at this; exact fun cv dd fs' H' G' s => this cv dd fs' H' G' (s.weak (fun i hi => List.mem_append_right _ hi) fun _ z => z)
      | ok d env' => rw [z] at this; exact fun v fs' H' fp G' s r => this v fs' H' fp G' (s.weak (fun i hi => List.mem_append_right _ hi) fun _ z => z) r
end
end VS

set_option maxRecDepth 100000
namespace VS
open PySem L2 SeqAt
section
variable {X : Cx} {W : WX} {M M1 M2 M3 Rs R1 R2 R3 : List Nat} {e a b c : Expr} {es : List Expr} {ca cb cc : CE} {cs : CA} {pos p : Pos}
variable {pins : List (Addr × Obj)} {σ : St} {H : Hp} {s : Shared} {C : Ctx}

/-! ### keys, look-ups -/
def D.key : D → Option Key
  | .int i => some (.inl i)
  | .str s => some (.inr s)
  | _ => none
theorem key_of {d : D} {k : Key} {v : V} {fp} (h : d.key = some k) (r : Rep C H d v fp) : v = kV k := by
  cases d <;> simp [D.key] at h <;> subst h
  · exact r.1
  · exact r.1
def lookD : List Key → List D → Key → Option D
  | k0 :: ks, d :: ds, k => if k0 = k then some d else lookD ks ds k
  | _, _, _ => none
theorem look_rep : ∀ {kvs : List (Key × V)} {ds : List D} {fp : List Addr} {k : Key} {d : D}, Reps C H ds (kvs.map (·.2)) fp → lookD (kvs.map (·.1)) ds k = some d →
    ∃ v g1 f g2, valV kvs k = some v ∧ Rep C H d v f ∧ fp = g1 ++ f ++ g2
  | [], ds, fp, k, d, r, h => by simp [lookD] at h
  | kv :: kvs, [], fp, k, d, r, h => by simp [lookD] at h
  | kv :: kvs, d0 :: ds, fp, k, d, ⟨v, vs', f1, f2, e, r, rs, e2⟩, h => by
    simp only [List.map_cons, List.cons.injEq] at e
    obtain ⟨rfl, rfl⟩ := e
    simp only [List.map_cons, lookD] at h
    by_cases hk : kv.1 = k
    · rw [if_pos hk] at h
      cases h
      exact ⟨kv.2, [], f1, f2, valV_pos hk, r, by simpa using e2⟩
    · rw [if_neg hk] at h
      obtain ⟨w, g1, f, g2, h1, h2, h3⟩ := look_rep rs h
      exact ⟨w, f1 ++ g1, f, g2, by rw [valV_neg hk]; exact h1, h2, by rw [e2, h3]; simp [List.append_assoc]⟩
theorem look_none : ∀ {kvs : List (Key × V)} {ds : List D} {fp : List Addr} {k : Key}, Reps C H ds (kvs.map (·.2)) fp → lookD (kvs.map (·.1)) ds k = none → valV kvs k = none
  | [], ds, fp, k, r, h => rfl
  | kv :: kvs, [], fp, k, ⟨h1, _⟩, h => by simp at h1
  | kv :: kvs, d0 :: ds, fp, k, ⟨v, vs', f1, f2, e, r, rs, e2⟩, h => by
    simp only [List.map_cons, List.cons.injEq] at e
    obtain ⟨rfl, rfl⟩ := e
    simp only [List.map_cons, lookD] at h
    by_cases hk : kv.1 = k
    · rw [if_pos hk] at h; cases h
    · rw [if_neg hk] at h
      rw [valV_neg hk]; exact look_none rs h
theorem rep_dct {g ks ds v fp} (hF : Fr C H) (r : Rep C H (.dct g ks ds) v fp) : ∃ a kvs f1 f, v = .ref a ∧ Rd H a (.dK kvs) ∧ kvs.map (·.1) = ks ∧ Reps C H ds (kvs.map (·.2)) f ∧ fp = f1 ++ f := by
  obtain ⟨a, kvs, f1, f2, e, n, q, r, _, e2⟩ := r
  exact ⟨a, kvs, f1, f2, e, (Nd.rd n hF).rd (fun xs z => nomatch z), q.1, r, e2⟩
theorem atI_reps {ds : List D} {vs : List V} {fp : List Addr} {i : Int} {d : D} (r : Reps C H ds vs fp) (h : atI ds i = some d) : ∃ v g1 f g2, atI vs i = some v ∧ Rep C H d v f ∧ fp = g1 ++ f ++ g2 := by
  unfold atI at h ⊢
  rw [reps_length r] at h
  cases e : ixN vs.length i with
  | none => rw [e] at h; cases h
  | some j =>
    rw [e] at h
    exact reps_get r h

/-! ### a[b] -/
def ixD : D → D → Option D
  | .lst _ ds, .int i => atI ds i
  | .tup ds, .int i => atI ds i
  | .str s, .int i => if s.length ≤ sizeLine then (atI s.cps.toList i).map fun c => .str ⟨#[c]⟩ else none
  | .dct _ ks ds, k => k.key.bind fun k => lookD ks ds k
  | _, _ => none
def rIxD : L2.R2 := fun x y H Q => ∃ a v, x = .ref a ∧ DGet H a y (some v) ∧ Q v H
theorem ix_dict {k : Nat} (hr : Room k X.A) : IxR X rIxD := by
  intro value slice pins s σ H x y v u Q I rx ry h hs
  obtain ⟨a, z, rfl, g, q⟩ := h
  cases rx
  refine PyProof.Rows.tail_any (ops := [.ref a, u]) (dict_typeIs I g) PySem.F.slot_dict_getitem.lookup ?_ hs
  exact d_getItem (by have := hr.units; omega) I g ry fun w' s' I' r' => ⟨z, H, I', r', q⟩
def cIdx (ca cb : CE) : CE := c2 ixD ca cb
theorem sb_idx {k : Nat} (hr : Room k X.A) (ha : SB X W M1 R1 a ca) (hb : SB X W M2 R2 b cb) (hs : PlainIx b := by exact fun _ _ => rfl) (hd : djB R1 M2 = true := by decide) : SB X W (M1 ++ M2) R1 (.Subscript a b pos) (cIdx ca cb) := by
  obtain ⟨ta, tb, pa, pb, q⟩ := two_go ha hb hd
  refine ⟨tOp (fun x y H Q => rIx X.K x y H Q ∨ rIxD x y H Q) ta tb, pe_ix (ix_seq.or (ix_dict hr)) pa pb hs, fun C fs env σ H tf Q hC G po => q C fs env σ H tf _ hC G ?_⟩
  unfold cIdx c2 at po
  cases e1 : cTwo ca cb env with
  | err => rw [e1] at po; exact po
  | ex x env' => rw [e1] at po; exact po
  | ok d env' =>
    rw [e1] at po
    intro x y fs' H' f1 f2 own G' s r1 r2 i1 i2
    have po' : PostB W C (M1 ++ M2) R1 tf fs env σ H Q (R.of (ixD d.1 d.2) env') := po
    cases e2 : ixD d.1 d.2 with
    | none => rw [e2] at po'; exact po'.elim
    | some z =>
      rw [e2] at po'
      obtain ⟨d1, d2⟩ := d
      have sub : ∀ {g1 f g2 : List Addr}, (∀ b ∈ g1 ++ f ++ g2, b ∈ f1) → In R1 own fs' f := fun {g1 f g2} h b hb => i1 b (h b (by simp [hb]))
      have fin : ∀ (v : V) (g1 f g2 : List Addr), Rep C H' z v f → (∀ b ∈ g1 ++ f ++ g2, b ∈ f1) → Q v H' := fun v g1 f g2 rv hf => po' v fs' H' f own G' s rv (sub hf)
      cases d1 with
      | lst g ds =>
        cases d2 with
        | int i =>
          obtain ⟨ad, vs, g1, g2, rfl, n, rs, _, ef⟩ := r1
          obtain ⟨rfl, _⟩ := r2
          obtain ⟨v, k1, f, k2, h1, h2, h3⟩ := atI_reps rs e2
          refine .inl (.inl ⟨ad, vs, i, v, rfl, rfl, by have := (Nd.rd n G'.fr).sql; rwa [hC.1] at this, h1, fin v k1 f k2 h2 fun b hb => ?_⟩)
          rw [ef, h3]; exact List.mem_append_right _ hb
        | _ => simp [ixD] at e2
      | tup ds =>
        cases d2 with
        | int i =>
          obtain ⟨ad, vs, rfl, n, rs⟩ := r1
          obtain ⟨rfl, _⟩ := r2
          obtain ⟨v, k1, f, k2, h1, h2, h3⟩ := atI_reps rs e2
          refine .inl (.inr (.inl ⟨ad, vs, i, v, rfl, rfl, by rwa [hC.1] at n, h1, fin v k1 f k2 h2 fun b hb => ?_⟩))
          rw [h3]; exact hb
        | _ => simp [ixD] at e2
      | str z0 =>
        cases d2 with
        | int i =>
          obtain ⟨rfl, _⟩ := r1
          obtain ⟨rfl, _⟩ := r2
          simp only [ixD] at e2
          split at e2
          · rename_i hz
            obtain ⟨ch, h1, rfl⟩ := Option.map_eq_some_iff.mp e2
            exact .inl (.inr (.inr ⟨z0, i, ch, rfl, rfl, hz, h1, fin _ [] [] [] ⟨rfl, rfl⟩ (fun b hb => by simp at hb)⟩))
          · cases e2
        | _ => simp [ixD] at e2
      | dct g ks ds =>
        obtain ⟨ad, kvs, g1, g2, rfl, hd', hk, rs, ef⟩ := rep_dct G'.fr r1
        cases hk2 : d2.key with
        | none => simp [ixD, hk2] at e2
        | some ky =>
          simp only [ixD, hk2, Option.bind_some] at e2
          rw [← hk] at e2
          obtain ⟨v, k1, f, k2, h1, h2, h3⟩ := look_rep rs e2
          have ey := key_of hk2 r2
          refine .inr ⟨ad, v, rfl, .inl ⟨kvs, ky, hd', ey, h1.symm⟩, fin v k1 f k2 h2 fun b hb => ?_⟩
          rw [ef, h3]; exact List.mem_append_right _ hb
      | _ => simp [ixD] at e2

/-! ### in -/
mutual
theorem eq_cong (I : Inv X pins σ H s) (hC : C.At X) (hF : Fr C H) : ∀ (d e : D) (n : Nat) (v : V) (f1 f2 : List Addr), eqOk n d = true → eqOk n e = true → Rep C H d v f1 → Rep C H e v f2 → ∀ x, pyEq d x = pyEq e x
  | .non, e, n, v, f1, f2, o1, o2, r1, r2 => by
    obtain ⟨rfl, _⟩ := r1
    cases e <;> simp [Rep] at r2 <;> exact fun _ => rfl
  | .bl b, e, n, v, f1, f2, o1, o2, r1, r2 => by
    obtain ⟨rfl, _⟩ := r1
    cases e <;> simp [Rep] at r2
    rw [r2.1]; exact fun _ => rfl
  | .int i, e, n, v, f1, f2, o1, o2, r1, r2 => by
    obtain ⟨rfl, _⟩ := r1
    cases e <;> simp [Rep] at r2
    rw [r2.1]; exact fun _ => rfl
  | .str i, e, n, v, f1, f2, o1, o2, r1, r2 => by
    obtain ⟨rfl, _⟩ := r1
    cases e <;> simp [Rep] at r2
    rw [r2.1]; exact fun _ => rfl
  | .ty i, e, n, v, f1, f2, o1, o2, r1, r2 => by simp [eqOk] at o1
  | .dct _ _ _, e, n, v, f1, f2, o1, o2, r1, r2 => by simp [eqOk] at o1
  | .obj _ _ _ _, e, n, v, f1, f2, o1, o2, r1, r2 => by simp [eqOk] at o1
  | .lst g ds, e, n, v, f1, f2, o1, o2, r1, r2 => by
    obtain ⟨a, vs, f, rfl, q, rs⟩ := rep_list hC hF r1
    cases n with
    | zero => simp [eqOk] at o1
    | succ n =>
      cases e with
      | lst g2 es =>
        obtain ⟨b, ws, f', e1, q2, rs2⟩ := rep_list hC hF r2
        cases e1
        rw [I.list_inj q2 q] at rs2
        have h := eqs_cong I hC hF ds es n vs f f' (by simpa [eqOk] using o1) (by simpa [eqOk] using o2) rs rs2
        intro x
        cases x <;> simp only [pyEq]
        exact h _
      | tup es =>
        obtain ⟨b, ws, e1, q2, rs2⟩ := rep_tup hC r2
        cases e1
        exact (ltu I q q2).elim
      | ty _ => simp [eqOk] at o2
      | dct _ _ _ => simp [eqOk] at o2
      | obj _ _ _ _ => simp [eqOk] at o2
      | _ => simp [Rep] at r2
  | .tup ds, e, n, v, f1, f2, o1, o2, r1, r2 => by
    obtain ⟨a, vs, rfl, q, rs⟩ := rep_tup hC r1
    cases n with
    | zero => simp [eqOk] at o1
    | succ n =>
      cases e with
      | tup es =>
        obtain ⟨b, ws, e1, q2, rs2⟩ := rep_tup hC r2
        cases e1
        rw [I.tuple_inj q2 q] at rs2
        have h := eqs_cong I hC hF ds es n vs f1 f2 (by simpa [eqOk] using o1) (by simpa [eqOk] using o2) rs rs2
        intro x
        cases x <;> simp only [pyEq]
        exact h _
      | lst g es =>
        obtain ⟨b, ws, f, e1, q2, rs2⟩ := rep_list hC hF r2
        cases e1
        exact (ltu I q2 q).elim
      | ty _ => simp [eqOk] at o2
      | dct _ _ _ => simp [eqOk] at o2
      | obj _ _ _ _ => simp [eqOk] at o2
      | _ => simp [Rep] at r2
theorem eqs_cong (I : Inv X pins σ H s) (hC : C.At X) (hF : Fr C H) : ∀ (ds es : List D) (n : Nat) (vs : List V) (f1 f2 : List Addr), eqOks n ds = true → eqOks n es = true → Reps C H ds vs f1 → Reps C H es vs f2 → ∀ xs, pyEqs ds xs = pyEqs es xs
  | [], es, n, vs, f1, f2, o1, o2, r1, r2 => by
    have := reps_length r1
    have h2 := reps_length r2
    cases es with
    | nil => exact fun _ => rfl
    | cons e es => simp at this h2; omega
  | d :: ds, [], n, vs, f1, f2, o1, o2, r1, r2 => by
    have := reps_length r1
    have h2 := reps_length r2
    simp at this h2; omega
  | d :: ds, e :: es, n, vs, f1, f2, o1, o2, ⟨v, vs', g1, g2, e1, r1, rs1, _⟩, ⟨w, ws', k1, k2, e2, r2, rs2, _⟩ => by
    rw [e1] at e2; cases e2
    simp only [eqOks, Bool.and_eq_true] at o1 o2
    intro xs
    cases xs with
    | nil => rfl
    | cons x xs => rw [pyEqs, pyEqs, eq_cong I hC hF d e n v g1 k1 o1.1 o2.1 r1 r2 x, eqs_cong I hC hF ds es n vs' g2 k2 o1.2 o2.2 rs1 rs2 xs]
end
theorem eqOks_get : ∀ {ds : List D} {n i : Nat} {d : D}, eqOks n ds = true → ds[i]? = some d → eqOk n d = true
  | [], n, i, d, _, h => by simp at h
  | d0 :: ds, n, 0, d, h, e => by simp at e; subst e; simp only [eqOks, Bool.and_eq_true] at h; exact h.1
  | d0 :: ds, n, i + 1, d, h, e => by simp only [eqOks, Bool.and_eq_true] at h; exact eqOks_get h.2 (by simpa using e)
theorem eqOk_mono : ∀ {n m : Nat}, n ≤ m → ∀ d, (eqOk n d = true → eqOk m d = true) := by
  intro n m h d
  exact (by
    have key : (∀ d : D, ∀ n m, n ≤ m → eqOk n d = true → eqOk m d = true) := by
      intro d
      exact D.rec (motive_1 := fun d => ∀ n m, n ≤ m → eqOk n d = true → eqOk m d = true) (motive_2 := fun ds => ∀ n m, n ≤ m → eqOks n ds = true → eqOks m ds = true)
        (fun _ _ _ _ => by simp [eqOk]) (fun _ _ _ _ _ => by simp [eqOk]) (fun _ _ _ _ _ => by simp [eqOk]) (fun _ _ _ _ _ => by simp [eqOk]) (fun _ n m _ h => by simp [eqOk] at h)
        (fun ds ih n m hnm h => by
          cases n with
          | zero => simp [eqOk] at h
          | succ n => cases m with
            | zero => omega
            | succ m => simp only [eqOk] at h ⊢; exact ih n m (by omega) h)
        (fun g ds ih n m hnm h => by
          cases n with
          | zero => simp [eqOk] at h
          | succ n => cases m with
            | zero => omega
            | succ m => simp only [eqOk] at h ⊢; exact ih n m (by omega) h)
        (fun _ _ _ _ n m _ h => by simp [eqOk] at h) (fun _ _ _ _ _ n m _ h => by simp [eqOk] at h)
        (fun _ _ _ _ => by simp [eqOks])
        (fun d ds h1 h2 n m hnm h => by
          simp only [eqOks, Bool.and_eq_true] at h ⊢
          exact ⟨h1 n m hnm h.1, h2 n m hnm h.2⟩) d
    exact key d n m h)
open Classical in
/-- the items' test as a function of the machine's values -/
noncomputable def inE (us : List Value) (ds : List D) (x : D) (y : Value) : Bool := decide (∃ (j : Nat) (d : D), us[j]? = some y ∧ ds[j]? = some d ∧ pyEq d x = true)
theorem vals_get' {vs : List V} {us : List Value} (r : Vals vs us) {j : Nat} {u : Value} (h : us[j]? = some u) : ∃ v, vs[j]? = some v ∧ RelV v u := by
  have hl := r.length
  have hj : j < vs.length := by rw [hl]; exact (List.getElem?_eq_some_iff.mp h).1
  obtain ⟨u', h1, h2⟩ := r.get (i := j) (x := vs[j]) (by simp [hj])
  rw [h] at h1; cases h1
  exact ⟨vs[j], by simp [hj], h2⟩
theorem inE_at (I : Inv X pins σ H s) (hC : C.At X) (hF : Fr C H) {ds : List D} {x : D} {vs : List V} {us : List Value} {w : V} {xu : Value} {f1 f2 : List Addr} {A : Around} (o1 : eqOks 40 ds = true) (o2 : eqOk 40 x = true) (rs : Reps C H ds vs f1) (rv : Vals vs us)
    (rx : Rep C H x w f2) (rw' : RelV w xu) (hu : A.units + 41 < cLine) : (∀ y ∈ us, EqAt A s y xu (inE us ds x y)) ∧ us.any (inE us ds x) = ds.any (fun d => pyEq d x) := by
  have hl := reps_vals rs rv
  have val : ∀ (j : Nat) (u : Value) (d : D), us[j]? = some u → ds[j]? = some d → inE us ds x u = pyEq d x := by
    intro j u d hj hd
    unfold inE
    obtain ⟨v, g1, f, g2, hv, r, _⟩ := reps_get rs hd
    obtain ⟨v2, hv2, rv2⟩ := vals_get' rv hj
    rw [hv] at hv2; cases hv2
    cases q : pyEq d x with
    | true =>
      classical
      exact decide_eq_true ⟨j, d, hj, hd, q⟩
    | false =>
      classical
      refine decide_eq_false ?_
      rintro ⟨j', d', hj', hd', q'⟩
      obtain ⟨v', _, f', _, hv', r', _⟩ := reps_get rs hd'
      obtain ⟨v3, hv3, rv3⟩ := vals_get' rv hj'
      rw [hv'] at hv3; cases hv3
      have : v' = v := rv3.inj rv2
      subst this
      rw [eq_cong I hC hF d' d 40 v' f' f (eqOks_get o1 hd') (eqOks_get o1 hd) r' r x] at q'
      rw [q] at q'; cases q'
  refine ⟨fun y hy => ?_, ?_⟩
  · obtain ⟨j, hj⟩ := List.mem_iff_getElem?.mp hy
    have hjl : j < ds.length := by rw [hl]; exact (List.getElem?_eq_some_iff.mp hj).1
    have hd : ds[j]? = some ds[j] := by simp [hjl]
    obtain ⟨v, g1, f, g2, hv, r, _⟩ := reps_get rs hd
    obtain ⟨v2, hv2, rv2⟩ := vals_get' rv hj
    rw [hv] at hv2; cases hv2
    rw [val j y _ hj hd]
    exact (rc_rep I hC hF ds[j] x 40 A v w f f2 y xu (eqOks_get o1 hd) o2 r rx rv2 rw' (by omega)).2
  · rw [Bool.eq_iff_iff, List.any_eq_true, List.any_eq_true]
    constructor
    · rintro ⟨y, hy, q⟩
      obtain ⟨j, hj⟩ := List.mem_iff_getElem?.mp hy
      have hjl : j < ds.length := by rw [hl]; exact (List.getElem?_eq_some_iff.mp hj).1
      have hd : ds[j]? = some ds[j] := by simp [hjl]
      exact ⟨ds[j], List.getElem_mem hjl, by rw [← val j y _ hj hd]; exact q⟩
    · rintro ⟨d, hd, q⟩
      obtain ⟨j, hj⟩ := List.mem_iff_getElem?.mp hd
      have hjl : j < us.length := by rw [← hl]; exact (List.getElem?_eq_some_iff.mp hj).1
      have hd' : us[j]? = some us[j] := by simp [hjl]
      exact ⟨us[j], List.getElem_mem hjl, by rw [val j _ d hd' hj]; exact q⟩
def inB : D → D → Option Bool
  | x, .lst _ ds => if eqOk 40 x && eqOks 40 ds then some (ds.any fun d => pyEq d x) else none
  | x, .tup ds => if eqOk 40 x && eqOks 40 ds then some (ds.any fun d => pyEq d x) else none
  | x, .dct _ ks ds => x.key.map fun k => (lookD ks ds k).isSome
  | .str i, .str j => some (!(Builtin.Str.occurrences j i 0 j.length 1).isEmpty)
  | _, _ => none
def pIn (x y : D) : Option D := (inB x y).map .bl
def pNotIn (x y : D) : Option D := (inB x y).map fun b => .bl (!b)
theorem od_inG {op : CmpOp} {neg : Bool} {kk : Nat} (hr : Room kk X.A)
    (hlist : ∀ {s : Shared} {l : Addr} {items : Array Value} {x : Value} {Q : Value → Shared → Prop} (e : Value → Bool), s.heap.IsList l items → (∀ y, y ∈ items → EqAt X.A.in1 s y x (e y)) → Q (.bool (if neg then !items.any e else items.any e)) s → wpAny (model X.prog X.w) X.A (compareOp op x (.ref l)) Q X.xe s)
    (htup : ∀ {s : Shared} {l : Addr} {items : Array Value} {x : Value} {Q : Value → Shared → Prop} (e : Value → Bool), s.heap.IsTuple l items → (∀ y, y ∈ items → EqAt X.A.in1 s y x (e y)) → Q (.bool (if neg then !items.any e else items.any e)) s → wpAny (model X.prog X.w) X.A (compareOp op x (.ref l)) Q X.xe s)
    (hdic : ∀ {pins s σ H a y u o} {Q : Value → Shared → Prop}, Inv X pins σ H s → DGet H a y o → RelV y u → (∀ s', Inv X pins σ H s' → Q (.bool (if neg then !o.isSome else o.isSome)) s') → wpAny (model X.prog X.w) X.A (compareOp op u (.ref a)) Q X.xe s)
    (hstr : OpR X (compareOp op) (fun x y H Q => ∃ i j, x = .str i ∧ y = .str j ∧ Q (.bl (if neg then !(!(Builtin.Str.occurrences j i 0 j.length 1).isEmpty) else !(Builtin.Str.occurrences j i 0 j.length 1).isEmpty)) H)) :
    OD2 X (compareOp op) (fun x y => (inB x y).map fun b => .bl (if neg then !b else b)) := by
  intro pins s σ H x y v u Q I rx ry ⟨C, dx, dy, fx, fy, d, hC, hF, r1, r2, e, kk⟩
  obtain ⟨b, hb, rfl⟩ := Option.map_eq_some_iff.mp e
  have q := kk.here (v := .bl (if neg then !b else b)) ⟨rfl, rfl⟩
  have hun := hr.units
  have hin1 : X.A.in1.units + 41 < cLine := by show X.A.units + 1 + 41 < cLine; omega
  cases dy with
  | lst g ds =>
    have hb' : (if eqOk 40 dx && eqOks 40 ds then some (ds.any fun d => pyEq d dx) else none) = some b := by cases dx <;> exact hb
    split at hb'
    · rename_i ho
      cases hb'
      have ho := Bool.and_eq_true_iff.mp ho
      obtain ⟨a, vs, f, rfl, qa, rs⟩ := rep_list hC hF r2
      cases (show u = Value.ref a from ry)
      obtain ⟨its, rv, pl, _⟩ := I.list qa
      obtain ⟨h1, h2⟩ := inE_at I hC hF (A := X.A.in1) ho.2 ho.1 rs rv r1 rx hin1
      refine hlist (inE its ds dx) pl.isList (fun y hy => h1 y (by simpa using hy)) ⟨.bl _, H, I, ?_, q⟩
      rw [List.any_toArray, h2]; rfl
    · cases hb'
  | tup ds =>
    have hb' : (if eqOk 40 dx && eqOks 40 ds then some (ds.any fun d => pyEq d dx) else none) = some b := by cases dx <;> exact hb
    split at hb'
    · rename_i ho
      cases hb'
      have ho := Bool.and_eq_true_iff.mp ho
      obtain ⟨a, vs, rfl, qa, rs⟩ := rep_tup hC r2
      cases (show u = Value.ref a from ry)
      obtain ⟨its, rv, pl, _⟩ := I.tuple qa
      obtain ⟨h1, h2⟩ := inE_at I hC hF (A := X.A.in1) ho.2 ho.1 rs rv r1 rx hin1
      refine htup (inE its ds dx) (show s.heap.IsTuple a its.toArray from pl) (fun y hy => h1 y (by simpa using hy)) ⟨.bl _, H, I, ?_, q⟩
      rw [List.any_toArray, h2]; rfl
    · cases hb'
  | dct g ks ds =>
    have hb' : (dx.key.map fun k => (lookD ks ds k).isSome) = some b := by cases dx <;> exact hb
    obtain ⟨ky, hk, rfl⟩ := Option.map_eq_some_iff.mp hb'
    obtain ⟨ad, kvs, g1, g2, rfl, hd', hks, rs, ef⟩ := rep_dct hF r2
    cases (show u = Value.ref ad from ry)
    have ex := key_of hk r1
    refine hdic I (.inl ⟨kvs, ky, hd', ex, rfl⟩) rx fun s' I' => ⟨.bl _, H, I', ?_, q⟩
    have : (valV kvs ky).isSome = (lookD ks ds ky).isSome := by
      rw [← hks]
      cases z : lookD (kvs.map (·.1)) ds ky with
      | none => rw [look_none rs z]; rfl
      | some w => obtain ⟨v', _, _, _, h1, _⟩ := look_rep rs z; rw [h1]; rfl
    rw [this]; rfl
  | str j =>
    cases dx with
    | str i =>
      obtain ⟨rfl, _⟩ := r1
      obtain ⟨rfl, _⟩ := r2
      simp only [inB] at hb
      cases hb
      exact hstr pins s σ H _ _ v u Q I rx ry ⟨i, j, rfl, rfl, q⟩
    | _ => simp [inB] at hb
  | _ => cases dx <;> simp [inB] at hb
theorem od_in {kk : Nat} (hr : Room kk X.A) : OD2 X (compareOp .In) pIn :=
  od_inG (neg := false) hr (fun e h1 h2 q => in_listAt e h1 h2 (by simpa using q)) (fun e h1 h2 q => in_tupleAt e h1 h2 (by simpa using q)) (fun I g r h => d_in (by have := hr.units; omega) I g r (by simpa using h)) (by simpa using op_in_str)
theorem od_notin {kk : Nat} (hr : Room kk X.A) : OD2 X (compareOp .NotIn) pNotIn :=
  od_inG (neg := true) hr (fun e h1 h2 q => notIn_listAt e h1 h2 (by simpa using q)) (fun e h1 h2 q => notIn_tupleAt e h1 h2 (by simpa using q)) (fun I g r h => d_notIn (by have := hr.units; omega) I g r (by simpa using h)) (by simpa using op_notin_str)
end
end VS

set_option maxRecDepth 100000
namespace VS
open PySem L2 SeqAt
section
variable {X : Cx} {W : WX} {M M1 M2 M3 Rs R1 R2 R3 : List Nat} {e a b c : Expr} {es : List Expr} {ca cb cc : CE} {cs : CA} {pos p : Pos}
variable {pins : List (Addr × Obj)} {σ : St} {H : Hp} {s : Shared} {C : Ctx}

/-! ### calls of what Python has -/
def cL (p : List D → Option D) (cs : CA) : CE := fun env => (cs env).bind fun ds env => R.of (p ds) env
theorem comes_postA {fs fs1 : FPs} {env env1 : Env} {H H1 : Hp} {tf own : List Addr} {d : D} {Q : VK} (G1 : Good C fs1 env1 σ H1 (own ++ tf)) (s1 : Step M tf fs env H fs1 env1 H1)
    (po : PostO W C M tf fs env σ H Q (.ok d env1)) : Comes C H1 d Q := comes_post G1 s1 po
theorem cL_go {p : List D → Option D} (ha : SA X W M Rs es cs) : ∃ t, PA X es t ∧ ∀ C fs env σ H tf Q, C.At X → Good C fs env σ H tf → PostO W C M tf fs env σ H Q (cL p cs env) → tCB (rDL X p) t σ H Q := by
  obtain ⟨t, pa, q⟩ := ha.go
  refine ⟨t, pa, fun C fs env σ H tf Q hC G po => ?_⟩
  show t σ H fun vs H1 => rDL X p vs H1 Q
  refine q C fs env σ H tf _ hC G ?_
  unfold cL at po
  cases e1 : cs env with
  | err => rw [e1] at po; exact po
  | ex x env' => rw [e1] at po; exact po
  | ok ds env' =>
    rw [e1] at po
    intro vs fs' H' fp own G' s r i
    have po' : PostO W C M tf fs env σ H Q (R.of (p ds) env') := po
    cases e2 : p ds with
    | none => rw [e2] at po'; exact po'.elim
    | some z =>
      rw [e2] at po'
      exact ⟨C, ds, fp, z, hC, G'.fr, r, e2, comes_post G' s po'⟩
theorem so_callB {id : String} {x : Str} {pf : Pos} {pr : List D → Option D} (hc : ODL X (.builtin id) pr) (hg : Gl X x) (hm : X.mg x = none) (hv : bootBuiltins x = some (.builtin id)) (ha : SA X W M Rs (e :: es) cs) (hn : x ≠ "__name__" := by decide) (hdb : (x == ("__debug__" : Str)) = false := by decide)
    (he : starEach (e :: es) X.env = (false, eval e X.env) :: starEach es X.env := by rfl) (hpl : (backTo pos (starEach es X.env)).any (·.1) = false := by rfl) : SO X W M (.Call (.Name x pf) (e :: es) [] pos) (cL pr cs) := by
  obtain ⟨t, pa, q⟩ := cL_go (p := pr) ha
  exact ⟨_, pe_callB hc hg hm hv pa hn hdb he hpl, q⟩
theorem so_callTy {T : String} {x : Str} {pf : Pos} {pr : List D → Option D} (hc : ODL X (.type T) pr) (hg : Gl X x) (hm : X.mg x = none) (hv : bootBuiltins x = some (.type T)) (ha : SA X W M Rs (e :: es) cs) (hn : x ≠ "__name__" := by decide) (hdb : (x == ("__debug__" : Str)) = false := by decide)
    (he : starEach (e :: es) X.env = (false, eval e X.env) :: starEach es X.env := by rfl) (hpl : (backTo pos (starEach es X.env)).any (·.1) = false := by rfl) : SO X W M (.Call (.Name x pf) (e :: es) [] pos) (cL pr cs) := by
  obtain ⟨t, pa, q⟩ := cL_go (p := pr) ha
  exact ⟨_, pe_callTy hc hg hm hv pa hn hdb he hpl, q⟩
/-- a built-in type's name as a value -/
theorem so_ty {T : String} {x : Str} (hg : Gl X x) (hm : X.mg x = none) (hv : bootBuiltins x = some (.type T)) (hn : x ≠ "__name__" := by decide) (hd : (x == ("__debug__" : Str)) = false := by decide) : SO X W [] (.Name x pos) (cK (.ty T)) :=
  so_k (v := .ty T) (pe_bltn hg hm hv (show RelV (.ty T) (.type T) from rfl) hn hd) (fun _ _ _ h => h) fun _ _ => ⟨rfl, rfl⟩

theorem reps1 {d : D} {vs : List V} {fp} (r : Reps C H [d] vs fp) : ∃ v, vs = [v] ∧ Rep C H d v fp := by
  obtain ⟨v, vs', f1, f2, rfl, r1, ⟨rfl, rfl⟩, rfl⟩ := r
  exact ⟨v, rfl, by simpa using r1⟩
theorem reps2 {d e : D} {vs : List V} {fp} (r : Reps C H [d, e] vs fp) : ∃ v w f1 f2, vs = [v, w] ∧ Rep C H d v f1 ∧ Rep C H e w f2 ∧ fp = f1 ++ f2 := by
  obtain ⟨v, vs', f1, f2, rfl, r1, r2, rfl⟩ := r
  obtain ⟨w, rfl, r3⟩ := reps1 r2
  exact ⟨v, w, f1, f2, rfl, r1, r3, rfl⟩
def pLen : List D → Option D
  | [.lst _ ds] => some (.int ds.length)
  | [.tup ds] => some (.int ds.length)
  | [.dct _ ks _] => some (.int ks.length)
  | [.str s] => if s.length ≤ sizeLine then some (.int s.length) else none
  | _ => none
theorem od_len : ODL X (.builtin "len") pLen := by
  intro pins s σ H xs us Q I rv ⟨C, ds, fx, d, hC, hF, rs, e, k⟩
  unfold pLen at e
  split at e
  · rename_i g zs
    obtain ⟨v, rfl, r⟩ := reps1 rs
    obtain ⟨a, vs, f, rfl, q, rz⟩ := rep_list hC hF r
    cases e
    refine call_len_seq pins s σ H _ us Q I rv ⟨a, vs, rfl, .inl q, ?_⟩
    rw [← reps_length rz]
    exact k.here ⟨rfl, rfl⟩
  · rename_i zs
    obtain ⟨v, rfl, r⟩ := reps1 rs
    obtain ⟨a, vs, rfl, q, rz⟩ := rep_tup hC r
    cases e
    refine call_len_seq pins s σ H _ us Q I rv ⟨a, vs, rfl, .inr q, ?_⟩
    rw [← reps_length rz]
    exact k.here ⟨rfl, rfl⟩
  · rename_i g ks zs
    obtain ⟨v, rfl, r⟩ := reps1 rs
    obtain ⟨ad, kvs, g1, g2, rfl, hd, hk, rz, _⟩ := rep_dct hF r
    cases e
    obtain ⟨u, rfl, ru⟩ := vals1 rv
    cases (show u = Value.ref ad from ru)
    refine d_len I hd fun t s' I' => ⟨.int kvs.length, H, I', ⟨t, rfl⟩, ?_⟩
    have : kvs.length = ks.length := by rw [← hk]; simp
    rw [this]; exact k.here ⟨rfl, rfl⟩
  · rename_i z
    obtain ⟨v, rfl, r⟩ := reps1 rs
    obtain ⟨rfl, _⟩ := r
    split at e
    · rename_i hz
      cases e
      exact call_len pins s σ H _ us Q I rv ⟨.str z, z.length, rfl, ⟨hz, rfl⟩, k.here ⟨rfl, rfl⟩⟩
    · cases e
  · cases e
def pAbs : List D → Option D
  | [.int i] => some (.int (if i < 0 then -i else i))
  | _ => none
theorem od_abs : ODL X (.builtin "abs") pAbs := by
  refine ODL.of call_abs fun xs H Q ⟨C, ds, fx, d, hC, hF, rs, e, k⟩ => ?_
  unfold pAbs at e
  split at e
  · rename_i i
    obtain ⟨v, rfl, r⟩ := reps1 rs
    obtain ⟨rfl, _⟩ := r
    cases e
    exact ⟨i, rfl, k.here ⟨rfl, rfl⟩⟩
  · cases e
def pMin2 : List D → Option D
  | [.int i, .int j] => some (.int (if j < i then j else i))
  | _ => none
def pMax2 : List D → Option D
  | [.int i, .int j] => some (.int (if i < j then j else i))
  | _ => none
theorem od_min2 (hc : X.calm = true) : ODL X (.builtin "min") pMin2 := by
  refine ODL.of (call_min2 hc) fun xs H Q ⟨C, ds, fx, d, hC, hF, rs, e, k⟩ => ?_
  unfold pMin2 at e
  split at e
  · rename_i i j
    obtain ⟨v, w, f1, f2, rfl, r, r', _⟩ := reps2 rs
    obtain ⟨rfl, _⟩ := r
    obtain ⟨rfl, _⟩ := r'
    cases e
    exact ⟨i, j, rfl, k.here ⟨rfl, rfl⟩⟩
  · cases e
theorem od_max2 (hc : X.calm = true) : ODL X (.builtin "max") pMax2 := by
  refine ODL.of (call_max2 hc) fun xs H Q ⟨C, ds, fx, d, hC, hF, rs, e, k⟩ => ?_
  unfold pMax2 at e
  split at e
  · rename_i i j
    obtain ⟨v, w, f1, f2, rfl, r, r', _⟩ := reps2 rs
    obtain ⟨rfl, _⟩ := r
    obtain ⟨rfl, _⟩ := r'
    cases e
    exact ⟨i, j, rfl, k.here ⟨rfl, rfl⟩⟩
  · cases e
def pInt1 : List D → Option D
  | [.int i] => some (.int i)
  | [.bl b] => some (.int (if b then 1 else 0))
  | _ => none
theorem od_int1 : ODL X (.type "int") pInt1 := by
  refine ODL.of call_int1 fun xs H Q ⟨C, ds, fx, d, hC, hF, rs, e, k⟩ => ?_
  unfold pInt1 at e
  split at e
  · rename_i i
    obtain ⟨v, rfl, r⟩ := reps1 rs
    obtain ⟨rfl, _⟩ := r
    cases e
    exact .inl ⟨i, rfl, k.here ⟨rfl, rfl⟩⟩
  · rename_i i
    obtain ⟨v, rfl, r⟩ := reps1 rs
    obtain ⟨rfl, _⟩ := r
    cases e
    exact .inr ⟨i, rfl, k.here ⟨rfl, rfl⟩⟩
  · cases e

/-! ### isinstance -/
def D.tyn : D → Option String
  | .non => some "NoneType"
  | .bl _ => some "bool"
  | .int _ => some "int"
  | .str _ => some "str"
  | .tup _ => some "tuple"
  | .lst _ _ => some "list"
  | .dct _ _ _ => some "dict"
  | _ => none
def isiB (a b : String) : Bool := a == b || (a == "bool" && b == "int")
def tyNames : List String := ["NoneType", "bool", "int", "str", "tuple", "list", "dict"]
def clNames : List String := ["bool", "int", "str", "tuple", "list", "dict"]
theorem kit_tab : (tyNames.all fun a => clNames.all fun b => kitB a b == some (isiB a b)) = true := by decide +kernel
theorem kit_isi {K : PySem.W.Frag} {a b : String} (ha : a ∈ tyNames) (hb : b ∈ clNames) : PySem.W.kitOne K (.type a) (.type b) = some (isiB a b) :=
  kit_ty (eq_of_beq (List.all_eq_true.mp (List.all_eq_true.mp kit_tab a ha) b hb))
theorem tyn_mem {d : D} {t : String} (h : d.tyn = some t) : t ∈ tyNames := by
  cases d <;> simp [D.tyn] at h <;> subst h <;> decide
def tyNm : D → Option String
  | .ty n => if clNames.contains n then some n else none
  | _ => none
def tyNms : List D → Option (List String)
  | [] => some []
  | d :: ds => (tyNm d).bind fun n => (tyNms ds).map fun ns => n :: ns
def pIsi : List D → Option D
  | [d, .ty n] => d.tyn.bind fun t => (tyNm (.ty n)).map fun n => .bl (isiB t n)
  | [d, .tup cs] => d.tyn.bind fun t => (tyNms cs).map fun ns => .bl (ns.any fun n => isiB t n)
  | _ => none
theorem tyx_of {d : D} {t : String} {v : V} {fp} (hC : C.At X) (hF : Fr C H) (h : d.tyn = some t) (r : Rep C H d v fp) : TyX X.K H v (.type t) := by
  cases d with
  | non => cases h; obtain ⟨rfl, _⟩ := r; exact .base .non
  | bl b => cases h; obtain ⟨rfl, _⟩ := r; exact .base (.bl b)
  | int b => cases h; obtain ⟨rfl, _⟩ := r; exact .base (.int b)
  | str b => cases h; obtain ⟨rfl, _⟩ := r; exact .base (.str b)
  | tup ds =>
    cases h
    obtain ⟨a, vs, rfl, q, _⟩ := rep_tup hC r
    rcases q with (q | ⟨o, q⟩) | ⟨o, its, n, hk, hc, _⟩
    · exact .base (.tup q)
    · exact .fTuple q
    · exact .kTuple hk hc
  | lst g ds =>
    cases h
    obtain ⟨a, vs, f, rfl, q, _⟩ := rep_list hC hF r
    rcases q with (q | ⟨o, q⟩) | ⟨o, its, n, hk, hc, _⟩
    · exact .base (.lst q)
    · exact .base (.frz q)
    · exact .kList hk hc
  | dct g ks ds =>
    cases h
    obtain ⟨ad, kvs, g1, g2, rfl, hd, hk, rz, _⟩ := rep_dct hF r
    rcases hd with q | ⟨o, q⟩
    · exact .base (.dK q)
    · exact .fDict q
  | ty _ => cases h
  | obj _ _ _ _ => cases h
theorem tyNm_inv {d : D} {n : String} (h : tyNm d = some n) : d = .ty n ∧ n ∈ clNames := by
  cases d <;> simp [tyNm] at h
  obtain ⟨h1, rfl⟩ := h
  exact ⟨rfl, by simpa using h1⟩
theorem tyNms_inv {C : Ctx} {H : Hp} : ∀ {cs : List D} {ns : List String} {vs : List V} {fp}, tyNms cs = some ns → Reps C H cs vs fp → ∃ us : List Value, us = ns.map Value.type ∧ Paired ClsV vs us ∧ ∀ n ∈ ns, n ∈ clNames
  | [], ns, vs, fp, h, ⟨e, _⟩ => by subst e; cases h; exact ⟨[], rfl, .nil, fun _ z => nomatch z⟩
  | d :: ds, ns, vs, fp, h, ⟨v, vs', f1, f2, e, r, rs, _⟩ => by
    simp only [tyNms] at h
    obtain ⟨n, hn, h⟩ := Option.bind_eq_some_iff.mp h
    obtain ⟨ns', hns, rfl⟩ := Option.map_eq_some_iff.mp h
    obtain ⟨rfl, hm⟩ := tyNm_inv hn
    obtain ⟨rfl, _⟩ := r
    subst e
    obtain ⟨us, rfl, hp, hall⟩ := tyNms_inv hns rs
    refine ⟨_, rfl, .cons (.ty n) hp, fun m hm' => ?_⟩
    rcases List.mem_cons.mp hm' with rfl | z
    · exact hm
    · exact hall m z
theorem kitAny_isi {K : PySem.W.Frag} {a : String} (ha : a ∈ tyNames) : ∀ {ns : List String}, (∀ n ∈ ns, n ∈ clNames) → PySem.W.kitAny K (.type a) (ns.map Value.type) = some (ns.any fun n => isiB a n)
  | [], _ => rfl
  | n :: ns, h => by
    show PySem.W.kitAny K (.type a) (Value.type n :: ns.map Value.type) = _
    unfold PySem.W.kitAny
    rw [kit_isi ha (h n (by simp))]
    cases q : isiB a n with
    | true => simp [q]
    | false => simp [q]; exact kitAny_isi ha fun m hm => h m (by simp [hm])
theorem call_isiT' : CallR X (.builtin "isinstance") (fun xs H Q => ∃ (x : V) (tp : Addr) (cs : List V) (t : Value) (us : List Value) (b : Bool), xs = [x, .ref tp] ∧ SqT X.K H tp cs ∧ Paired ClsV cs us ∧ TyX X.K H x t ∧ PySem.W.kitAny X.K t us = some b ∧ Q (.bl b) H) := by
  intro pins s σ H xs us Q I r h
  obtain ⟨x, tp, cs, t, ws, b, rfl, hT, k, ty, e, q⟩ := h
  obtain ⟨u1, u2, rfl, r1, r2⟩ := vals2 r
  cases (show u2 = Value.ref tp from r2)
  obtain ⟨P, Z, p, hx⟩ := kit_of I r1 ty
  obtain ⟨its, rv, ⟨o, h1, h2, n, h3⟩, _⟩ := I.tuple hT
  have e3 := ClsV.all k rv
  subst e3
  obtain ⟨oc, od, dt, sl⟩ := o
  simp only at h2 h3
  subst h2 h3
  exact PySem.W.kia_tup Z I.kIn p h1 e hx fun tk => ⟨.bl b, H, I.tok tk, rfl, q⟩
theorem od_isi : ODL X (.builtin "isinstance") pIsi := by
  intro pins s σ H xs us Q I rv ⟨C, ds, fx, d, hC, hF, rs, e, k⟩
  unfold pIsi at e
  split at e
  · rename_i d0 n
    obtain ⟨v, w, f1, f2, rfl, r, r', _⟩ := reps2 rs
    obtain ⟨rfl, _⟩ := r'
    obtain ⟨t, ht, e⟩ := Option.bind_eq_some_iff.mp e
    obtain ⟨m, hm, rfl⟩ := Option.map_eq_some_iff.mp e
    obtain ⟨h1, h2⟩ := tyNm_inv hm
    cases h1
    exact call_isi pins s σ H _ us Q I rv ⟨v, .ty n, .type t, .type n, isiB t n, rfl, .ty n, tyx_of hC hF ht r, kit_isi (tyn_mem ht) h2, k.here ⟨rfl, rfl⟩⟩
  · rename_i d0 cs
    obtain ⟨v, w, f1, f2, rfl, r, r', _⟩ := reps2 rs
    obtain ⟨a, vs, rfl, q, rz⟩ := rep_tup hC r'
    obtain ⟨t, ht, e⟩ := Option.bind_eq_some_iff.mp e
    obtain ⟨ns, hns, rfl⟩ := Option.map_eq_some_iff.mp e
    obtain ⟨us', e1, hp, hall⟩ := tyNms_inv hns rz
    subst e1
    exact call_isiT' pins s σ H _ us Q I rv ⟨v, a, vs, .type t, _, ns.any fun n => isiB t n, rfl, q, hp, tyx_of hC hF ht r, kitAny_isi (tyn_mem ht) hall, k.here ⟨rfl, rfl⟩⟩
  · cases e

/-! ### displays -/
def PostAO (W : WX) (C : Ctx) (M : List Nat) (tf : List Addr) (fs : FPs) (env : Env) (σ : St) (H : Hp) (Q : List V → Hp → Prop) : R (List D) → Prop
  | .ok ds env' => ∀ vs fs' H' fp, Good C fs' env' σ H' (fp ++ tf) → Step M tf fs env H fs' env' H' → Reps C H' ds vs fp → Q vs H'
  | .ex x env' => ∀ cv dd fs' H', Good C fs' env' σ H' tf → Step M tf fs env H fs' env' H' → ExIs C x cv dd H' → W cv dd σ H'
  | .err => False
/-- arguments that are all owned -/
structure SAO (X : Cx) (W : WX) (M : List Nat) (es : List Expr) (c : CA) : Prop where
  go : ∃ t, PA X es t ∧ ∀ C fs env σ H tf Q, C.At X → Good C fs env σ H tf → PostAO W C M tf fs env σ H Q (c env) → t σ H Q
theorem sao_nil : SAO X W [] [] cNil := by
  refine ⟨tNil, pa_nil, fun C fs env σ H tf Q hC G po => ?_⟩
  exact po [] fs H [] (by simpa using G) .refl ⟨rfl, rfl⟩
theorem Good.swap {fs : FPs} {env : Env} {tf f1 f2 : List Addr} (G : Good C fs env σ H (f2 ++ (f1 ++ tf))) : Good C fs env σ H ((f1 ++ f2) ++ tf) := by
  have p : (fs.flatten ++ ((f1 ++ f2) ++ tf)).Perm (fs.flatten ++ (f2 ++ (f1 ++ tf))) := by
    refine List.Perm.append_left _ ?_
    rw [← List.append_assoc]
    exact List.perm_append_comm.append_right _
  exact ⟨G.le, G.lf, G.rep, p.nodup_iff.mpr G.nd, fun a ha => G.own a (p.mem_iff.mp ha), fun a ha => G.trk a (p.mem_iff.mp ha), G.fr, G.lk⟩
theorem sao_cons (ha : SO X W M1 a ca) (hr : SAO X W M2 es cs) (hs : starEach (a :: es) X.env = (false, eval a X.env) :: starEach es X.env := by rfl) : SAO X W (M1 ++ M2) (a :: es) (cCons ca cs) := by
  obtain ⟨t, p, q⟩ := ha.go
  obtain ⟨t2, p2, q2⟩ := hr.go
  refine ⟨tCons t t2, pa_cons p p2 hs, fun C fs env σ H tf Q hC G po => ?_⟩
  refine q C fs env σ H tf _ hC G ?_
  unfold cCons at po
  cases e1 : ca env with
  | err => rw [e1] at po; exact po
  | ex x env' =>
    rw [e1] at po
    exact fun cv dd fs' H' G' s => po cv dd fs' H' G' (s.weak (fun i hi => List.mem_append_left _ hi) fun _ z => z)
  | ok d env1 =>
    rw [e1] at po
    intro v fs1 H1 fp1 G1 s1 r1
    refine q2 C fs1 env1 σ H1 (fp1 ++ tf) _ hC G1 ?_
    have po' : PostAO W C (M1 ++ M2) tf fs env σ H Q ((cs env1).bind fun ds env => .ok (d :: ds) env) := po
    cases e2 : cs env1 with
    | err => rw [e2] at po'; exact po'
    | ex x env' =>
      rw [e2] at po'
      exact fun cv dd fs' H' G' s => po' cv dd fs' H' G'.drop (s1.trans (s.weak (fun _ z => z) fun x hx => List.mem_append_right _ hx))
    | ok ds env2 =>
      rw [e2] at po'
      intro vs fs2 H2 fp2 G2 s2 r2
      have po2 : ∀ vs fs' H' fp, Good C fs' env2 σ H' (fp ++ tf) → Step (M1 ++ M2) tf fs env H fs' env2 H' → Reps C H' (d :: ds) vs fp → Q vs H' := po'
      exact po2 (v :: vs) fs2 H2 (fp1 ++ fp2) G2.swap (s1.trans (s2.weak (fun _ z => z) fun x hx => List.mem_append_right _ hx)) ⟨v, vs, fp1, fp2, rfl, r1.keep (fun x hx => s2.t x (List.mem_append_left _ hx)) s2.m, r2, rfl⟩
def cTup (cs : CA) : CE := fun env => (cs env).bind fun ds env => if ds.length ≤ sizeLine then .ok (.tup ds) env else .err
def cLst (cs : CA) : CE := fun env => (cs env).bind fun ds env => if ds.length ≤ sizeLine then .ok (.lst .m ds) env else .err
theorem Good.new {fs : FPs} {env : Env} {tf : List Addr} {q : Addr} {o : HO} (G : Good C fs env σ H tf) (hq : H q = none) (mu : Mutb o) : Good C fs env σ (upd H q o) (q :: tf) :=
  G.grow (fp := [q]) (Le.new hq) (by simp) (fun a ha => by simp at ha; subst ha; exact hq) fun a ha => by simp at ha; subst ha; exact ⟨o, upd_same, mu⟩
theorem so_tup {kk} (h : SAO X W M es cs) : SO X W M (.Tuple es kk pos) (cTup cs) := by
  obtain ⟨t, p, q⟩ := h.go
  refine ⟨tTup t, pe_tup p, fun C fs env σ H tf Q hC G po => q C fs env σ H tf _ hC G ?_⟩
  unfold cTup at po
  cases e1 : cs env with
  | err => rw [e1] at po; exact po
  | ex x env' => rw [e1] at po; exact po
  | ok ds env' =>
    rw [e1] at po
    intro vs fs' H' fp G' s r
    have po' : PostO W C M tf fs env σ H Q (if ds.length ≤ sizeLine then .ok (.tup ds) env' else .err) := po
    by_cases hz : ds.length ≤ sizeLine
    · rw [if_pos hz] at po'
      refine ⟨by rw [← reps_length r]; exact hz, fun q hq => ?_⟩
      have le := Le.new (o := .tup vs) hq
      refine po' (.ref q) fs' _ fp (G'.le' le) ?_ ⟨q, vs, rfl, SqT.of upd_same, r.le le⟩
      have := s.trans (Step.grow (M := []) G'.drop le)
      simpa using this
    · rw [if_neg hz] at po'; exact po'.elim
theorem so_lst (h : SAO X W M es cs) : SO X W M (.List es pos) (cLst cs) := by
  obtain ⟨t, p, q⟩ := h.go
  refine ⟨tLst t, pe_lst p, fun C fs env σ H tf Q hC G po => q C fs env σ H tf _ hC G ?_⟩
  unfold cLst at po
  cases e1 : cs env with
  | err => rw [e1] at po; exact po
  | ex x env' => rw [e1] at po; exact po
  | ok ds env' =>
    rw [e1] at po
    intro vs fs' H' fp G' s r
    have po' : PostO W C M tf fs env σ H Q (if ds.length ≤ sizeLine then .ok (.lst .m ds) env' else .err) := po
    by_cases hz : ds.length ≤ sizeLine
    · rw [if_pos hz] at po'
      refine ⟨by rw [← reps_length r]; exact hz, fun q hq => ?_⟩
      have le := Le.new (o := .lst vs) hq
      refine po' (.ref q) fs' _ (q :: fp) (G'.new hq trivial) ?_ ⟨q, vs, [q], fp, rfl, ⟨upd_same, rfl⟩, r.le le, .inl rfl, rfl⟩
      have := s.trans (Step.grow (M := []) G'.drop le)
      simpa using this
    · rw [if_neg hz] at po'; exact po'.elim
end
end VS

set_option maxRecDepth 100000
namespace VS
open PySem L2 SeqAt

inductive O where
  | nx (e : Env)
  | rt (d : D) (e : Env)
  | bk (e : Env)
  | ct (e : Env)
  | ex (x : Exn) (e : Env)
  | err
abbrev CS := Env → O

structure StepS (M Vs : List Nat) (tf : List Addr) (fs : FPs) (env : Env) (σ : St) (H : Hp) (fs' : FPs) (env' : Env) (σ' : St) (H' : Hp) : Prop where
  s : Step M tf fs env H fs' env' H'
  v : ∀ i, i ∉ Vs → σ'[i]? = σ[i]?
theorem StepS.refl {M Vs tf fs env σ H} : StepS M Vs tf fs env σ H fs env σ H := ⟨.refl, fun _ _ => rfl⟩
theorem StepS.trans {M1 M2 V1 V2 tf fs env σ H fs1 env1 σ1 H1 fs2 env2 σ2 H2} (a : StepS M1 V1 tf fs env σ H fs1 env1 σ1 H1) (b : StepS M2 V2 tf fs1 env1 σ1 H1 fs2 env2 σ2 H2) : StepS (M1 ++ M2) (V1 ++ V2) tf fs env σ H fs2 env2 σ2 H2 :=
  ⟨a.s.trans b.s, fun i hi => by
    rw [List.mem_append, not_or] at hi
    exact (b.v i hi.2).trans (a.v i hi.1)⟩
theorem StepS.weak {M M' Vs Vs' tf tf' fs env σ H fs1 env1 σ1 H1} (a : StepS M Vs tf fs env σ H fs1 env1 σ1 H1) (h : ∀ i ∈ M, i ∈ M') (hv : ∀ i ∈ Vs, i ∈ Vs') (ht : ∀ x ∈ tf', x ∈ tf) : StepS M' Vs' tf' fs env σ H fs1 env1 σ1 H1 :=
  ⟨a.s.weak h ht, fun i hi => a.v i fun z => hi (hv i z)⟩
theorem Step.ss {M tf fs env H fs' env' H'} {σ : St} (a : Step M tf fs env H fs' env' H') : StepS M [] tf fs env σ H fs' env' σ H' := ⟨a, fun _ _ => rfl⟩

section
variable (W : WX) (C : Ctx)
def PostS (M Vs : List Nat) (tf : List Addr) (fs : FPs) (env : Env) (σ : St) (H : Hp) (E : Ends) : O → Prop
  | .nx env' => ∀ fs' σ' H', Good C fs' env' σ' H' tf → StepS M Vs tf fs env σ H fs' env' σ' H' → E.nx σ' H'
  | .rt d env' => ∀ v fs' σ' H' fp, Good C fs' env' σ' H' (fp ++ tf) → StepS M Vs tf fs env σ H fs' env' σ' H' → Rep C H' d v fp → E.rt v H'
  | .bk env' => ∀ fs' σ' H', Good C fs' env' σ' H' tf → StepS M Vs tf fs env σ H fs' env' σ' H' → E.bk σ' H'
  | .ct env' => ∀ fs' σ' H', Good C fs' env' σ' H' tf → StepS M Vs tf fs env σ H fs' env' σ' H' → E.ct σ' H'
  | .ex x env' => ∀ cv dd fs' σ' H', Good C fs' env' σ' H' tf → StepS M Vs tf fs env σ H fs' env' σ' H' → ExIs C x cv dd H' → W cv dd σ' H'
  | .err => False
def PostG (M Vs : List Nat) (tf : List Addr) (fs : FPs) (env : Env) (σ : St) (H : Hp) (Q : St → Hp → Prop) : Option Env → Prop
  | some env' => ∀ fs' σ' H', Good C fs' env' σ' H' tf → StepS M Vs tf fs env σ H fs' env' σ' H' → Q σ' H'
  | none => False
end
structure SS (X : Cx) (W : WX) (M Vs : List Nat) (st : Stmt) (c : CS) : Prop where
  go : ∃ t, PS X st t ∧ ∀ C fs env σ H tf E, C.At X → Good C fs env σ H tf → PostS W C M Vs tf fs env σ H E (c env) → t E σ H
structure SSs (X : Cx) (W : WX) (M Vs : List Nat) (sts : List Stmt) (c : CS) : Prop where
  go : ∃ t, PSs X sts t ∧ ∀ C fs env σ H tf E, C.At X → Good C fs env σ H tf → PostS W C M Vs tf fs env σ H E (c env) → t E σ H
/-- a target: it takes an owned value -/
structure SG (X : Cx) (M Vs : List Nat) (tg : Expr) (g : D → Env → Option Env) : Prop where
  go : ∃ t, PG X tg t ∧ ∀ C fs env σ H tf Q d v fp, C.At X → Good C fs env σ H (fp ++ tf) → Rep C H d v fp → PostG C M Vs tf fs env σ H Q (g d env) → t v σ H Q
structure SGs (X : Cx) (M Vs : List Nat) (tgs : List Expr) (g : List D → Env → Option Env) : Prop where
  go : ∃ t, PGs X tgs t ∧ ∀ C fs env σ H tf Q ds vs fp, C.At X → Good C fs env σ H (fp ++ tf) → Reps C H ds vs fp → PostG C M Vs tf fs env σ H Q (g ds env) → t vs σ H Q

section
variable {C : Ctx} {H H' : Hp} {fs fs' : FPs} {env env' : Env} {σ σ' : St} {tf fp own : List Addr} {M Rs : List Nat}
/-- an owned value goes into a slot -/
theorem Good.put {i : Nat} {d : D} {v : V} (G : Good C fs env σ H (fp ++ tf)) (r : Rep C H d v fp) : Good C (fs.set i fp) (env.set i (some d)) (σ.set i (some v)) H tf := by
  by_cases hi : i < σ.length
  case neg =>
    have h1 := G.le
    have h2 := G.lf
    rw [List.set_eq_of_length_le (by omega), List.set_eq_of_length_le (by omega), List.set_eq_of_length_le (by omega)]
    exact G.drop
  have hl : i < fs.length := by rw [G.lf]; exact hi
  have p1 := flat_set fs hl fp
  have p2 := flat_get fs hl
  have sub : ∀ a ∈ (fs.set i fp).flatten ++ tf, a ∈ fs.flatten ++ (fp ++ tf) := fun a ha => by
    rcases List.mem_append.mp ha with z | z
    · rcases List.mem_append.mp (p1.mem_iff.mp z) with z | z
      · simp [z]
      · have := p2.mem_iff.mpr (List.mem_append_right _ z)
        simp [this]
    · simp [z]
  refine ⟨by simpa using G.le, by simpa using G.lf, fun j d' e => ?_, ?_, fun a ha => G.own a (sub a ha), fun a ha => G.trk a (sub a ha), G.fr, G.lk⟩
  · rw [List.getElem?_set] at e
    by_cases hj : i = j
    · subst hj
      have hle : i < env.length := by rw [G.le]; exact hi
      simp [hle] at e; subst e
      refine ⟨v, by simp [hi], ?_⟩
      rw [getD_set fs i i fp hl, if_pos rfl]; exact r
    · rw [if_neg hj] at e
      obtain ⟨w, e1, r1⟩ := G.rep j d' e
      refine ⟨w, by rw [List.getElem?_set_ne hj]; exact e1, ?_⟩
      rw [getD_set fs i j fp hl, if_neg (Ne.symm hj)]; exact r1
  · have nd := G.nd
    have q : (fs.flatten ++ (fp ++ tf)).Perm (fs.getD i [] ++ ((fp ++ (fs.set i []).flatten) ++ tf)) := by
      refine (p2.append_right _).trans ?_
      rw [List.append_assoc]
      refine List.Perm.append_left _ ?_
      rw [← List.append_assoc]
      exact List.perm_append_comm.append_right _
    have nd2 := (List.nodup_append.mp (q.nodup_iff.mp nd)).2.1
    exact (p1.append_right tf).nodup_iff.mpr nd2
theorem Step.put {i : Nat} {d : D} (G : Good C fs env σ H (fp ++ tf)) : Step [i] tf fs env H (fs.set i fp) (env.set i (some d)) H := by
  refine ⟨fun _ _ => rfl, fun j hj => ?_, fun j hj => ?_, fun _ _ _ _ => rfl, .refl H⟩
  · rw [List.getD_eq_getElem?_getD, List.getElem?_set_ne (by intro z; subst z; simp at hj), List.getD_eq_getElem?_getD]
  · rw [List.getElem?_set, if_neg (by intro z; subst z; simp at hj)]
theorem StepS.put {i : Nat} {d : D} {v : V} (G : Good C fs env σ H (fp ++ tf)) : StepS [i] [i] tf fs env σ H (fs.set i fp) (env.set i (some d)) (σ.set i (some v)) H :=
  ⟨Step.put G, fun j hj => by rw [List.getElem?_set, if_neg (by intro z; subst z; simp at hj)]⟩
end

section
variable {X : Cx} {W : WX} {M M1 M2 M3 V1 V2 V3 Rs R1 R2 R3 : List Nat} {e a b c : Expr} {es : List Expr} {ca cb cc : CE} {cs : CA} {ct : CT} {pos p : Pos} {st : Stmt} {sts : List Stmt} {c1 c2' c3 : CS}
variable {pins : List (Addr × Obj)} {σ : St} {H : Hp} {s : Shared} {C : Ctx}

/-! ### blocks -/
def sNil : CS := fun env => .nx env
def O.bind (o : O) (f : CS) : O := match o with
  | .nx e => f e
  | o => o
def sSeq (c1 c2 : CS) : CS := fun env => (c1 env).bind c2
theorem ss_nil : SSs X W [] [] [] sNil := ⟨tNext, pss_nil, fun C fs env σ H tf E hC G po => po fs σ H G .refl⟩
theorem PostS.weak {tf fs env σ H E} {z : O} (h : ∀ i ∈ M1, i ∈ M2) (hv : ∀ i ∈ V1, i ∈ V2) (po : PostS W C M2 V2 tf fs env σ H E z) : PostS W C M1 V1 tf fs env σ H E z := by
  cases z with
  | nx env' => exact fun fs' σ' H' G s => po fs' σ' H' G (s.weak h hv fun _ z => z)
  | rt d env' => exact fun v fs' σ' H' fp G s r => po v fs' σ' H' fp G (s.weak h hv fun _ z => z) r
  | bk env' => exact fun fs' σ' H' G s => po fs' σ' H' G (s.weak h hv fun _ z => z)
  | ct env' => exact fun fs' σ' H' G s => po fs' σ' H' G (s.weak h hv fun _ z => z)
  | ex x env' => exact fun cv dd fs' σ' H' G s => po cv dd fs' σ' H' G (s.weak h hv fun _ z => z)
  | err => exact po
theorem PostS.step {tf fs env σ H E fs1 env1 σ1 H1} {z : O} (s1 : StepS M1 V1 tf fs env σ H fs1 env1 σ1 H1) (po : PostS W C (M1 ++ M2) (V1 ++ V2) tf fs env σ H E z) : PostS W C M2 V2 tf fs1 env1 σ1 H1 E z := by
  cases z with
  | nx env' => exact fun fs' σ' H' G s => po fs' σ' H' G (s1.trans s)
  | rt d env' => exact fun v fs' σ' H' fp G s r => po v fs' σ' H' fp G (s1.trans s) r
  | bk env' => exact fun fs' σ' H' G s => po fs' σ' H' G (s1.trans s)
  | ct env' => exact fun fs' σ' H' G s => po fs' σ' H' G (s1.trans s)
  | ex x env' => exact fun cv dd fs' σ' H' G s => po cv dd fs' σ' H' G (s1.trans s)
  | err => exact po
theorem mem_l {M1 M2 : List Nat} : ∀ i ∈ M1, i ∈ M1 ++ M2 := fun _ h => List.mem_append_left _ h
theorem mem_r {M1 M2 : List Nat} : ∀ i ∈ M2, i ∈ M1 ++ M2 := fun _ h => List.mem_append_right _ h
theorem post_seq {tf fs env σ H E} {f : CS} {z : O} (po : PostS W C (M1 ++ M2) (V1 ++ V2) tf fs env σ H E (z.bind f)) {K : Ends} (hr : K.rt = E.rt) (hb : K.bk = E.bk) (hc : K.ct = E.ct)
    (hn : ∀ env1, z = .nx env1 → ∀ fs1 σ1 H1, Good C fs1 env1 σ1 H1 tf → StepS M1 V1 tf fs env σ H fs1 env1 σ1 H1 → PostS W C M2 V2 tf fs1 env1 σ1 H1 E (f env1) → K.nx σ1 H1) : PostS W C M1 V1 tf fs env σ H K z := by
  cases z with
  | nx env1 => exact fun fs1 σ1 H1 G1 s1 => hn env1 rfl fs1 σ1 H1 G1 s1 (PostS.step s1 po)
  | rt d env' => show ∀ v fs' σ' H' fp, _ → _ → _ → K.rt v H'; rw [hr]; exact PostS.weak mem_l mem_l (z := .rt d env') po
  | bk env' => show ∀ fs' σ' H', _ → _ → K.bk σ' H'; rw [hb]; exact PostS.weak mem_l mem_l (z := .bk env') po
  | ct env' => show ∀ fs' σ' H', _ → _ → K.ct σ' H'; rw [hc]; exact PostS.weak mem_l mem_l (z := .ct env') po
  | ex x env' => exact PostS.weak mem_l mem_l (z := .ex x env') po
  | err => exact po
theorem ss_cons (h1 : SS X W M1 V1 st c1) (h2 : SSs X W M2 V2 sts c2') : SSs X W (M1 ++ M2) (V1 ++ V2) (st :: sts) (sSeq c1 c2') := by
  obtain ⟨t, p, q⟩ := h1.go
  obtain ⟨t2, p2, q2⟩ := h2.go
  refine ⟨tSeq t t2, pss_cons p p2, fun C fs env σ H tf E hC G po => ?_⟩
  refine q C fs env σ H tf _ hC G ?_
  exact post_seq (f := c2') po rfl rfl rfl fun env1 _ fs1 σ1 H1 G1 s1 po1 => q2 C fs1 env1 σ1 H1 tf E hC G1 po1
theorem ss_one (h1 : SS X W M1 V1 st c1) : SSs X W M1 V1 [st] c1 := by
  obtain ⟨t, p, q⟩ := h1.go
  exact ⟨t, pss_one p, q⟩
/-- a slot is dropped -/
def sKill (i : Nat) (c : CS) : CS := fun env => c (env.set i none)
theorem Good.kill {fs env tf} (G : Good C fs env σ H tf) (i : Nat) : Good C (fs.set i []) (env.set i none) σ H tf := by
  refine ⟨by simpa using G.le, by simpa using G.lf, fun j d' e => ?_, ?_, fun a ha => G.own a ?_, fun a ha => G.trk a ?_, G.fr, G.lk⟩
  · rw [List.getElem?_set] at e
    by_cases hj : i = j
    · subst hj; simp at e
    · rw [if_neg hj] at e
      obtain ⟨v, e1, r⟩ := G.rep j d' e
      refine ⟨v, e1, ?_⟩
      have : (fs.set i []).getD j [] = fs.getD j [] := by
        rw [List.getD_eq_getElem?_getD, List.getElem?_set_ne hj, List.getD_eq_getElem?_getD]
      rw [this]; exact r
  · by_cases hi : i < fs.length
    · have q := (flat_get fs hi).append_right tf
      have := q.nodup_iff.mp G.nd
      rw [List.append_assoc] at this
      exact (List.nodup_append.mp this).2.1
    · rw [List.set_eq_of_length_le (by omega)]; exact G.nd
  all_goals
    rcases List.mem_append.mp ha with z | z
    · by_cases hi : i < fs.length
      · exact List.mem_append_left _ ((flat_get fs hi).mem_iff.mpr (List.mem_append_right _ z))
      · rw [List.set_eq_of_length_le (by omega)] at z; exact List.mem_append_left _ z
    · exact List.mem_append_right _ z
theorem Step.kill {fs : FPs} {env : Env} {tf} (i : Nat) : Step [i] tf fs env H (fs.set i []) (env.set i none) H := by
  refine ⟨fun _ _ => rfl, fun j hj => ?_, fun j hj => ?_, fun _ _ _ _ => rfl, .refl H⟩
  · have hj' : i ≠ j := fun z => by subst z; simp at hj
    rw [List.getD_eq_getElem?_getD, List.getElem?_set_ne hj', List.getD_eq_getElem?_getD]
  · rw [List.getElem?_set, if_neg (by intro z; subst z; simp at hj)]
theorem ss_kill (i : Nat) (h : SSs X W M V1 sts c1) : SSs X W ([i] ++ M) V1 sts (sKill i c1) := by
  obtain ⟨t, p, q⟩ := h.go
  refine ⟨t, p, fun C fs env σ H tf E hC G po => q C _ _ σ H tf E hC (G.kill i) ?_⟩
  exact PostS.step (M1 := [i]) (V1 := []) (M2 := M) (V2 := V1) ⟨Step.kill i, fun _ _ => rfl⟩ po
def sKills (is : List Nat) (c : CS) : CS := fun env => c (is.foldl (fun env i => env.set i none) env)
theorem ss_kills (is : List Nat) (h : SSs X W M V1 sts c1) : SSs X W (is ++ M) V1 sts (sKills is c1) := by
  induction is with
  | nil => exact h
  | cons i is ih => exact ss_kill i ih

/-! ### small statements -/
def sExpr (c : CE) : CS := fun env => match c env with
  | .ok _ env => .nx env
  | .ex x env => .ex x env
  | .err => .err
theorem ss_expr (h : SB X W M Rs e ca) (hs : swapsWith e none pos.line X.env = pure false := by rfl) : SS X W M [] (.Expr e pos) (sExpr ca) := by
  obtain ⟨t, p, q⟩ := h.go
  refine ⟨tDrop t, ps_expr p hs, fun C fs env σ H tf E hC G po => q C fs env σ H tf _ hC G ?_⟩
  unfold sExpr at po
  cases e1 : ca env with
  | err => rw [e1] at po; exact po
  | ex x env' => rw [e1] at po; exact fun cv dd fs' H' G' s => po cv dd fs' σ H' G' s.ss
  | ok d env' => rw [e1] at po; exact fun v fs' H' fp own G' s r i => po fs' σ H' G'.drop s.ss
def sRet (c : CE) : CS := fun env => match c env with
  | .ok d env => .rt d env
  | .ex x env => .ex x env
  | .err => .err
theorem ss_ret (h : SO X W M e ca) : SS X W M [] (.Return (some e) pos) (sRet ca) := by
  obtain ⟨t, p, q⟩ := h.go
  refine ⟨tRet t, ps_ret p, fun C fs env σ H tf E hC G po => q C fs env σ H tf _ hC G ?_⟩
  unfold sRet at po
  cases e1 : ca env with
  | err => rw [e1] at po; exact po
  | ex x env' => rw [e1] at po; exact fun cv dd fs' H' G' s => po cv dd fs' σ H' G' s.ss
  | ok d env' => rw [e1] at po; exact fun v fs' H' fp G' s r => po v fs' σ H' fp G' s.ss r
theorem ss_retN : SS X W [] [] (.Return none pos) (fun env => .rt .non env) :=
  ⟨tRetN, ps_retN, fun C fs env σ H tf E hC G po => po .non fs σ H [] (by simpa using G) .refl ⟨rfl, rfl⟩⟩
theorem ss_pass : SS X W [] [] (.Pass pos) sNil := ⟨tNext, ps_pass, fun C fs env σ H tf E hC G po => po fs σ H G .refl⟩
theorem ss_break : SS X W [] [] (.Break pos) (fun env => .bk env) := ⟨tBreak, ps_break, fun C fs env σ H tf E hC G po => po fs σ H G .refl⟩
theorem ss_continue : SS X W [] [] (.Continue pos) (fun env => .ct env) := ⟨tCont, ps_continue, fun C fs env σ H tf E hC G po => po fs σ H G .refl⟩
theorem ss_doc {x j pos'} : SS X W [] [] (.Expr (.Constant (.str x) j pos) pos') sNil := ⟨tNext, ps_doc, fun C fs env σ H tf E hC G po => po fs σ H G .refl⟩
def sIf (ct : CT) (c1 c2 : CS) : CS := fun env => match ct env with
  | .ok k env => if k = true then c1 env else c2 env
  | .ex x env => .ex x env
  | .err => .err
theorem ss_if {sa sb : List Stmt} (hc : ST X W M1 c ct) (ha : SSs X W M2 V2 sa c1) (hb : SSs X W M3 V3 sb c2') : SS X W (M1 ++ (M2 ++ M3)) (V2 ++ V3) (.If c sa sb pos) (sIf ct c1 c2') := by
  obtain ⟨t, p, q⟩ := hc.go
  obtain ⟨t2, p2, q2⟩ := ha.go
  obtain ⟨t3, p3, q3⟩ := hb.go
  refine ⟨tIfS t t2 t3, ps_if p p2 p3, fun C fs env σ H tf E hC G po => q C fs env σ H tf _ hC G ?_⟩
  unfold sIf at po
  cases e1 : ct env with
  | err => rw [e1] at po; exact po
  | ex x env' => rw [e1] at po; exact fun cv dd fs' H' G' s => po cv dd fs' σ H' G' (s.ss.weak mem_l (fun _ z => nomatch z) fun _ z => z)
  | ok k env1 =>
    rw [e1] at po
    intro fs1 H1 G1 s1
    have po1 : PostS W C (M1 ++ (M2 ++ M3)) ([] ++ (V2 ++ V3)) tf fs env σ H E (if k = true then c1 env1 else c2' env1) := po
    have po2 := PostS.step s1.ss po1
    cases k with
    | true => exact q2 C fs1 env1 σ H1 tf E hC G1 (PostS.weak mem_l mem_l po2)
    | false => exact q3 C fs1 env1 σ H1 tf E hC G1 (PostS.weak mem_r mem_r po2)

/-! ### targets -/
def gSet (i : Nat) : D → Env → Option Env := fun d env => some (env.set i (some d))
theorem sg_name (i : Nat) {x : Str} (hN : X.N.Nodup) (hi : X.N[i]? = some x := by rfl) (hx : Loc X.env.scope x := by first | exact .inl rfl | exact .inr rfl) (hf : X.fn x = true ∨ X.env.scope.names.lookup x = some .local := by first | exact .inl rfl | exact .inr rfl | assumption) : SG X [i] [i] (.Name x pos) (gSet i) :=
  ⟨gName i, pg_name hN hi hx hf, fun C fs env σ H tf Q d v fp hC G r po => po _ _ _ (G.put r) (StepS.put G)⟩
def gNilD : List D → Env → Option Env
  | [], env => some env
  | _, _ => none
def gConsD (g : D → Env → Option Env) (gs : List D → Env → Option Env) : List D → Env → Option Env
  | d :: ds, env => (g d env).bind fun env => gs ds env
  | _, _ => none
theorem sgs_nil : SGs X [] [] [] gNilD := by
  refine ⟨gNil, pgs_nil, fun C fs env σ H tf Q ds vs fp hC G r po => ?_⟩
  cases ds with
  | nil => obtain ⟨rfl, rfl⟩ := r; exact ⟨rfl, po fs σ H G.drop .refl⟩
  | cons d ds => exact po.elim
theorem sgs_cons {t : Expr} {ts : List Expr} {g : D → Env → Option Env} {gs : List D → Env → Option Env} (h1 : SG X M1 V1 t g) (h2 : SGs X M2 V2 ts gs)
    (hs : (assignEach (t :: ts) X.env).map (·.2) = assign t X.env :: (assignEach ts X.env).map (·.2) := by rfl) : SGs X (M1 ++ M2) (V1 ++ V2) (t :: ts) (gConsD g gs) := by
  obtain ⟨t1, p1, q1⟩ := h1.go
  obtain ⟨t2, p2, q2⟩ := h2.go
  refine ⟨gCons t1 t2, pgs_cons p1 p2 hs, fun C fs env σ H tf Q ds vs fp hC G r po => ?_⟩
  cases ds with
  | nil => exact po.elim
  | cons d ds =>
    obtain ⟨v, vs', f1, f2, rfl, r1, r2, rfl⟩ := r
    refine ⟨v, vs', rfl, ?_⟩
    have po' : PostG C (M1 ++ M2) (V1 ++ V2) tf fs env σ H Q ((g d env).bind fun env => gs ds env) := po
    refine q1 C fs env σ H (f2 ++ tf) _ d v f1 hC (by rw [← List.append_assoc]; exact G) r1 ?_
    cases e1 : g d env with
    | none => rw [e1] at po'; exact po'.elim
    | some env1 =>
      rw [e1] at po'
      intro fs1 σ1 H1 G1 s1
      refine q2 C fs1 env1 σ1 H1 tf Q ds vs' f2 hC G1 (r2.keep (fun a ha => s1.s.t a (List.mem_append_left _ ha)) s1.s.m) ?_
      have po2 : PostG C (M1 ++ M2) (V1 ++ V2) tf fs env σ H Q (gs ds env1) := po'
      have w1 := s1.weak (fun _ z => z) (fun _ z => z) (tf' := tf) fun x hx => List.mem_append_right _ hx
      cases e2 : gs ds env1 with
      | none => rw [e2] at po2; exact po2.elim
      | some env2 =>
        rw [e2] at po2
        exact fun fs2 σ2 H2 G2 s2 => po2 fs2 σ2 H2 G2 (w1.trans s2)
def gTupD (n : Nat) (gs : List D → Env → Option Env) : D → Env → Option Env
  | .tup ds, env => if ds.length = n then gs ds env else none
  | _, _ => none
theorem sg_tup {ts : List Expr} {k : Nat} {gs : List D → Env → Option Env} (hc : X.calm = true) (h : SGs X M V1 ts gs) (hst : (assignEach ts X.env).findIdx? (·.1) = none := by rfl) :
    SG X M V1 (.Tuple ts k pos) (gTupD (assignEach ts X.env).length gs) := by
  obtain ⟨t, p, q⟩ := h.go
  refine ⟨gTup X.K (assignEach ts X.env).length t, pg_tup hc p rfl hst, fun C fs env σ H tf Q d v fp hC G r po => ?_⟩
  cases d with
  | tup ds =>
    obtain ⟨a, vs, rfl, hq, rs⟩ := rep_tup hC r
    have po' : PostG C M V1 tf fs env σ H Q (if ds.length = (assignEach ts X.env).length then gs ds env else none) := po
    by_cases hl : ds.length = (assignEach ts X.env).length
    · rw [if_pos hl] at po'
      exact ⟨a, vs, rfl, hq, by rw [← reps_length rs]; exact hl, q C fs env σ H tf Q ds vs fp hC G rs po'⟩
    · rw [if_neg hl] at po'; exact po'.elim
  | _ => exact po.elim

/-! ### assignments -/
def sAsg (c : CE) (g : D → Env → Option Env) : CS := fun env => match c env with
  | .ok d env => match g d env with
    | some env => .nx env
    | none => .err
  | .ex x env => .ex x env
  | .err => .err
theorem asg_go {t : TE} {g : TG} {gd : D → Env → Option Env} {tf fs env E} (hC : C.At X) (G : Good C fs env σ H tf)
    (q : ∀ C fs env σ H tf Q, C.At X → Good C fs env σ H tf → PostO W C M1 tf fs env σ H Q (ca env) → t σ H Q)
    (qg : ∀ C fs env σ H tf Q d v fp, C.At X → Good C fs env σ H (fp ++ tf) → Rep C H d v fp → PostG C M2 V2 tf fs env σ H Q (gd d env) → g v σ H Q)
    (po : PostS W C (M1 ++ M2) V2 tf fs env σ H E (sAsg ca gd env)) : t σ H fun x H1 => g x σ H1 E.nx := by
  refine q C fs env σ H tf _ hC G ?_
  unfold sAsg at po
  cases e1 : ca env with
  | err => rw [e1] at po; exact po
  | ex x env' => rw [e1] at po; exact fun cv dd fs' H' G' s => po cv dd fs' σ H' G' (s.ss.weak mem_l (fun _ z => nomatch z) fun _ z => z)
  | ok d env1 =>
    rw [e1] at po
    intro v fs1 H1 fp G1 s1 r1
    refine qg C fs1 env1 σ H1 tf _ d v fp hC G1 r1 ?_
    have po' : PostS W C (M1 ++ M2) V2 tf fs env σ H E (match gd d env1 with
      | some env => .nx env
      | none => .err) := po
    cases e2 : gd d env1 with
    | none => rw [e2] at po'; exact po'
    | some env2 =>
      rw [e2] at po'
      exact fun fs2 σ2 H2 G2 s2 => po' fs2 σ2 H2 G2 (s1.ss.trans s2)
theorem ss_set (i : Nat) {x : Str} {pos' : Pos} (hN : X.N.Nodup) (h : SO X W M e ca) (hi : X.N[i]? = some x := by rfl) (hx : Loc X.env.scope x := by first | exact .inl rfl | exact .inr rfl) (hs : swapsWith e (some (.Name x pos')) pos.line X.env = pure false := by rfl) (hf : X.fn x = true ∨ X.env.scope.names.lookup x = some .local := by first | exact .inl rfl | exact .inr rfl | assumption) :
    SS X W (M ++ [i]) [i] (.Assign [.Name x pos'] e pos) (sAsg ca (gSet i)) := by
  obtain ⟨t, p, q⟩ := h.go
  refine ⟨tAsg t (gName i), ps_set hN hi hx p hs hf, fun C fs env σ H tf E hC G po => ?_⟩
  exact asg_go (gd := gSet i) (M2 := [i]) (V2 := [i]) hC G q (fun C fs env σ H tf Q d v fp hC G r po => po _ _ _ (G.put r) (StepS.put G)) po
theorem ss_asg {tg : Expr} {g : D → Env → Option Env} (h : SO X W M e ca) (hg : SG X M2 V2 tg g) (hs : swapsWithSole [tg] e pos.line X.env = pure false := by rfl) (hw : swappedStores [tg] e X.env = pure none := by rfl)
    (h1 : (assignEach [tg] X.env).map (·.2) = [assign tg X.env] := by rfl) : SS X W (M ++ M2) V2 (.Assign [tg] e pos) (sAsg ca g) := by
  obtain ⟨t, p, q⟩ := h.go
  obtain ⟨t2, p2, q2⟩ := hg.go
  refine ⟨tAsg t t2, ps_asg p p2 hs hw h1, fun C fs env σ H tf E hC G po => ?_⟩
  exact asg_go (gd := g) (M2 := M2) (V2 := V2) hC G q q2 po
/-- a, b = x, y with plain names -/
def sPar (i j : Nat) (cs : CA) : CS := fun env => match cs env with
  | .ok [d, e] env => .nx ((env.set i (some d)).set j (some e))
  | .ok _ _ => .err
  | .ex x env => .ex x env
  | .err => .err
theorem ss_par (i j : Nat) {x y : Str} {px py pt : Pos} {kt k2 pt2} (hc : X.calm = true) (hN : X.N.Nodup) (ha : SAO X W M [a, b] cs) (hi : X.N[i]? = some x := by rfl) (hj : X.N[j]? = some y := by rfl) (hij : i ≠ j := by decide)
    (hx : X.env.scope.names.lookup x = some .local := by rfl) (hy : X.env.scope.names.lookup y = some .local := by rfl)
    (hw : swappedStores [.Tuple [.Name x px, .Name y py] kt pt] (.Tuple [a, b] k2 pt2) X.env = pure (some [x, y]) := by rfl)
    (hs : swapsWithSole [.Tuple [.Name x px, .Name y py] kt pt] (.Tuple [a, b] k2 pt2) pos.line X.env = pure false := by rfl) :
    SS X W (M ++ ([i] ++ [j])) ([i] ++ [j]) (.Assign [.Tuple [.Name x px, .Name y py] kt pt] (.Tuple [a, b] k2 pt2) pos) (sPar i j cs) := by
  obtain ⟨t, p, q⟩ := ha.go
  refine ⟨tPar i j t, ps_par hc hN hi hj hij hx hy p hw hs, fun C fs env σ H tf E hC G po => q C fs env σ H tf _ hC G ?_⟩
  unfold sPar at po
  cases e1 : cs env with
  | err => rw [e1] at po; exact po
  | ex x env' => rw [e1] at po; exact fun cv dd fs' H' G' s => po cv dd fs' σ H' G' (s.ss.weak mem_l (fun _ z => nomatch z) fun _ z => z)
  | ok ds env1 =>
    rw [e1] at po
    intro vs fs1 H1 fp G1 s1 r1
    match ds, r1, po with
    | [], _, po => exact po.elim
    | [_], _, po => exact po.elim
    | _ :: _ :: _ :: _, _, po => exact po.elim
    | [d, d2], r1, po =>
      obtain ⟨v, w, f1, f2, rfl, ra, r2, rfl⟩ := reps2 r1
      refine ⟨v, w, rfl, ?_⟩
      have G1' : Good C fs1 env1 σ H1 (f1 ++ (f2 ++ tf)) := by rw [← List.append_assoc]; exact G1
      have Ga := G1'.put (i := i) ra
      have Gb := Ga.put (i := j) r2
      have sa := StepS.put (i := i) (d := d) (v := v) G1'
      have sb := StepS.put (i := j) (d := d2) (v := w) Ga
      refine po _ _ _ Gb ?_
      exact s1.ss.trans ((sa.weak (fun _ z => z) (fun _ z => z) fun x hx => List.mem_append_right _ hx).trans sb)
end
end VS

set_option maxRecDepth 100000
namespace VS
open PySem L2 SeqAt
/-- what a walk gives: its items, while the nodes fp stand -/
structure SrcOk (C : Ctx) (J : It) (ds : List D) (fp : List Addr) (H1 : Hp) : Prop where
  walk : Walk J ds.length (fun H => Fr C H ∧ Mono H1 H ∧ ∀ a ∈ fp, H a = H1 a) (fun i H x H' => Le H H' ∧ ∃ d, ds[i]? = some d ∧ Rep C H' d x [])
def PostI (W : WX) (C : Ctx) (M Rs : List Nat) (tf : List Addr) (fs : FPs) (env : Env) (σ : St) (H : Hp) (Q : It → Hp → Prop) : R (List D) → Prop
  | .ok ds env' => ∀ J fs' H' fp own, Good C fs' env' σ H' (own ++ tf) → Step M tf fs env H fs' env' H' → SrcOk C J ds fp H' → In Rs own fs' fp → Q J H'
  | .ex x env' => ∀ cv dd fs' H', Good C fs' env' σ H' tf → Step M tf fs env H fs' env' H' → ExIs C x cv dd H' → W cv dd σ H'
  | .err => False
structure SI (X : Cx) (W : WX) (M Rs : List Nat) (tg e : Expr) (c : CA) : Prop where
  go : ∃ t, PI X tg e t ∧ ∀ C fs env σ H tf Q, C.At X → Good C fs env σ H tf → PostI W C M Rs tf fs env σ H Q (c env) → t σ H Q
def forRun (g : D → Env → Option Env) (body : CS) : List D → Env → O
  | [], env => .nx env
  | d :: ds, env => match g d env with
    | none => .err
    | some env1 => match body env1 with
      | .nx env2 => forRun g body ds env2
      | .ct env2 => forRun g body ds env2
      | .bk env2 => .nx env2
      | o => o
def sFor (src : CA) (g : D → Env → Option Env) (body : CS) : CS := fun env => match src env with
  | .ok ds env => forRun g body ds env
  | .ex x env => .ex x env
  | .err => .err
def whRun (ct : CT) (body : CS) : Nat → Env → O
  | 0, _ => .err
  | n + 1, env => match ct env with
    | .ok true env1 => match body env1 with
      | .nx env2 => whRun ct body n env2
      | .ct env2 => whRun ct body n env2
      | .bk env2 => .nx env2
      | o => o
    | .ok false env1 => .nx env1
    | .ex x env => .ex x env
    | .err => .err
def sWhile (μ : Env → Nat) (ct : CT) (body : CS) : CS := fun env => whRun ct body (μ env) env

section
variable {X : Cx} {W : WX} {M M1 M2 M3 V1 V2 V3 Rs R1 R2 R3 : List Nat} {e a b c tg : Expr} {es : List Expr} {ca cb cc : CE} {cs src : CA} {ct : CT} {pos p : Pos} {st : Stmt} {sts body : List Stmt} {c1 c2' c3 cb' : CS} {g : D → Env → Option Env}
variable {pins : List (Addr × Obj)} {σ : St} {H : Hp} {s : Shared} {C : Ctx}

theorem ss_for (hp : PassesOwn (model X.prog X.w) X.A X.env X.xe) (hc : X.calm = true) (hi : SI X W M1 R1 tg e src) (hg : SG X M2 V2 tg g) (hb : SSs X W M3 V3 body cb')
    (hd : djB R1 (M2 ++ M3) = true := by decide) (hs : ∀ x, foldedSetIterable e X.env x = pure x := by intro _; rfl) : SS X W (M1 ++ (M2 ++ M3)) (V2 ++ V3) (.For tg e body [] pos) (sFor src g cb') := by
  obtain ⟨t, p, q⟩ := hi.go
  obtain ⟨t2, p2, q2⟩ := hg.go
  obtain ⟨t3, p3, q3⟩ := hb.go
  refine ⟨tFor t t2 t3, ps_for hp hc p p2 p3 hs, fun C fs env σ H tf E hC G po => ?_⟩
  show t σ H fun J H1 => _
  refine q C fs env σ H tf _ hC G ?_
  unfold sFor at po
  cases e1 : src env with
  | err => rw [e1] at po; exact po
  | ex x env' => rw [e1] at po; exact fun cv dd fs' H' G' s => po cv dd fs' σ H' G' (s.ss.weak mem_l (fun _ z => nomatch z) fun _ z => z)
  | ok ds env1 =>
    rw [e1] at po
    intro J fs1 H1 fp own G1 s1 src1 i1
    have po1 : PostS W C (M1 ++ (M2 ++ M3)) ([] ++ (V2 ++ V3)) tf fs env σ H E (forRun g cb' ds env1) := po
    have po2 := PostS.step s1.ss po1
    have dj := djB_ok hd
    refine for_it (n := ds.length) src1.walk (fun i σ' H' => ∃ fs' env', Good C fs' env' σ' H' (own ++ tf) ∧ StepS (M2 ++ M3) (V2 ++ V3) (own ++ tf) fs1 env1 σ H1 fs' env' σ' H' ∧ PostS W C (M2 ++ M3) (V2 ++ V3) tf fs1 env1 σ H1 E (forRun g cb' (ds.drop i) env'))
      ⟨fs1, env1, G1, .refl, by simpa using po2⟩ ?_ ?_ ?_
    · rintro i σ' H' hi ⟨fs', env', G', s', _⟩
      exact ⟨G'.fr, s'.s.m, i1.keep s'.s dj⟩
    · rintro i x σ' H' H2 hi ⟨fs', env', G', s', po'⟩ ⟨le, d, hd', rd⟩
      have hdrop : ds.drop i = d :: ds.drop (i + 1) := by
        rw [List.drop_eq_getElem_cons hi]
        have := List.getElem?_eq_some_iff.mp hd'
        obtain ⟨_, h⟩ := this
        rw [h]
      rw [hdrop] at po'
      have G2 := G'.le' le
      have s2 := s'.trans (Step.grow (M := []) G' le).ss
      have s2 : StepS (M2 ++ M3) (V2 ++ V3) (own ++ tf) fs1 env1 σ H1 fs' env' σ' H2 := by simpa using s2
      have po3 : PostS W C (M2 ++ M3) (V2 ++ V3) tf fs1 env1 σ H1 E (match g d env' with
        | none => .err
        | some env1 => match cb' env1 with
          | .nx env2 => forRun g cb' (ds.drop (i + 1)) env2
          | .ct env2 => forRun g cb' (ds.drop (i + 1)) env2
          | .bk env2 => .nx env2
          | o => o) := po'
      refine q2 C fs' env' σ' H2 (own ++ tf) _ d x [] hC (by simpa using G2) rd ?_
      cases eg : g d env' with
      | none => rw [eg] at po3; exact po3.elim
      | some env3 =>
        rw [eg] at po3
        intro fs3 σ3 H3 G3 s3
        refine q3 C fs3 env3 σ3 H3 (own ++ tf) _ hC G3 ?_
        have po4 : PostS W C (M2 ++ M3) (V2 ++ V3) tf fs1 env1 σ H1 E (match cb' env3 with
          | .nx env2 => forRun g cb' (ds.drop (i + 1)) env2
          | .ct env2 => forRun g cb' (ds.drop (i + 1)) env2
          | .bk env2 => .nx env2
          | o => o) := po3
        have s3' : StepS (M2 ++ M3) (V2 ++ V3) (own ++ tf) fs1 env1 σ H1 fs3 env3 σ3 H3 := (s2.trans (s3.weak mem_l mem_l (M' := M2 ++ M3) (Vs' := V2 ++ V3) fun _ z => z)).weak (fun i hi => (List.mem_append.mp hi).elim id id) (fun i hi => (List.mem_append.mp hi).elim id id) fun _ z => z
        have comp : ∀ {fs4 env4 σ4 H4}, StepS M3 V3 (own ++ tf) fs3 env3 σ3 H3 fs4 env4 σ4 H4 → StepS (M2 ++ M3) (V2 ++ V3) (own ++ tf) fs1 env1 σ H1 fs4 env4 σ4 H4 := fun {fs4 env4 σ4 H4} s4 =>
          (s3'.trans (s4.weak (M' := M2 ++ M3) (Vs' := V2 ++ V3) mem_r mem_r fun _ z => z)).weak (fun i hi => (List.mem_append.mp hi).elim id id) (fun i hi => (List.mem_append.mp hi).elim id id) fun _ z => z
        have tfw : ∀ {fs4 env4 σ4 H4}, StepS M3 V3 (own ++ tf) fs3 env3 σ3 H3 fs4 env4 σ4 H4 → StepS (M2 ++ M3) (V2 ++ V3) tf fs1 env1 σ H1 fs4 env4 σ4 H4 := fun {fs4 env4 σ4 H4} s4 => (comp s4).weak (fun _ z => z) (fun _ z => z) fun x hx => List.mem_append_right _ hx
        cases eb : cb' env3 with
        | nx env4 =>
          rw [eb] at po4
          exact fun fs4 σ4 H4 G4 s4 => ⟨fs4, env4, G4, comp s4, po4⟩
        | ct env4 =>
          rw [eb] at po4
          exact fun fs4 σ4 H4 G4 s4 => ⟨fs4, env4, G4, comp s4, po4⟩
        | bk env4 =>
          rw [eb] at po4
          exact fun fs4 σ4 H4 G4 s4 => po4 fs4 σ4 H4 G4.drop (tfw s4)
        | rt d4 env4 =>
          rw [eb] at po4
          intro v fs4 σ4 H4 fp4 G4 s4 r4
          refine po4 v fs4 σ4 H4 fp4 (G4.sub ?_) (tfw s4) r4
          exact (List.Sublist.refl _).append (List.sublist_append_right _ _)
        | ex x4 env4 =>
          rw [eb] at po4
          exact fun cv dd fs4 σ4 H4 G4 s4 => po4 cv dd fs4 σ4 H4 G4.drop (tfw s4)
        | err => rw [eb] at po4; exact po4
    · rintro σ' H' ⟨fs', env', G', s', po'⟩
      rw [List.drop_length] at po'
      exact po' fs' σ' H' G'.drop (s'.weak (fun _ z => z) (fun _ z => z) fun x hx => List.mem_append_right _ hx)

theorem ss_while (μ : Env → Nat) (hp : PassesOwn (model X.prog X.w) X.A X.env X.xe) (hc : ST X W M1 c ct) (hb : SSs X W M2 V2 body cb') : SS X W (M1 ++ M2) V2 (.While c body [] pos) (sWhile μ ct cb') := by
  obtain ⟨t, p, q⟩ := hc.go
  obtain ⟨t3, p3, q3⟩ := hb.go
  refine ⟨tWhile t t3, ps_while hp p p3, fun C fs env σ H tf E hC G po => ?_⟩
  refine ⟨fun m σ' H' => ∃ fs' env', Good C fs' env' σ' H' tf ∧ StepS (M1 ++ M2) V2 tf fs env σ H fs' env' σ' H' ∧ PostS W C (M1 ++ M2) V2 tf fs env σ H E (whRun ct cb' m env'), ⟨μ env, fs, env, G, .refl, po⟩, ?_⟩
  rintro m σ' H' ⟨fs', env', G', s', po'⟩
  cases m with
  | zero => exact po'.elim
  | succ m =>
    refine q C fs' env' σ' H' tf _ hC G' ?_
    have po1 : PostS W C (M1 ++ M2) V2 tf fs env σ H E (match ct env' with
      | .ok true env1 => match cb' env1 with
        | .nx env2 => whRun ct cb' m env2
        | .ct env2 => whRun ct cb' m env2
        | .bk env2 => .nx env2
        | o => o
      | .ok false env1 => .nx env1
      | .ex x env => .ex x env
      | .err => .err) := po'
    have comp1 : ∀ {fs4 env4 H4}, Step M1 tf fs' env' H' fs4 env4 H4 → StepS (M1 ++ M2) V2 tf fs env σ H fs4 env4 σ' H4 := fun {fs4 env4 H4} s4 =>
      (s'.trans (s4.ss.weak (M' := M1 ++ M2) (Vs' := V2) mem_l (fun _ z => nomatch z) fun _ z => z)).weak (fun i hi => (List.mem_append.mp hi).elim id id) (fun i hi => (List.mem_append.mp hi).elim id id) fun _ z => z
    cases e1 : ct env' with
    | err => rw [e1] at po1; exact po1
    | ex x env1 => rw [e1] at po1; exact fun cv dd fs1 H1 G1 s1 => po1 cv dd fs1 σ' H1 G1 (comp1 s1)
    | ok k env1 =>
      intro fs1 H1 G1 s1
      rw [e1] at po1
      cases k with
      | false => exact po1 fs1 σ' H1 G1 (comp1 s1)
      | true =>
        refine ⟨fun σ3 H3 => ∃ fs3 env3, Good C fs3 env3 σ3 H3 tf ∧ StepS (M1 ++ M2) V2 tf fs env σ H fs3 env3 σ3 H3 ∧ PostS W C (M1 ++ M2) V2 tf fs env σ H E (whRun ct cb' m env3), fun σ3 H3 h => ⟨m, Nat.lt_succ_self m, h⟩, ?_⟩
        refine q3 C fs1 env1 σ' H1 tf _ hC G1 ?_
        have s1' := comp1 s1
        have comp : ∀ {fs4 env4 σ4 H4}, StepS M2 V2 tf fs1 env1 σ' H1 fs4 env4 σ4 H4 → StepS (M1 ++ M2) V2 tf fs env σ H fs4 env4 σ4 H4 := fun {fs4 env4 σ4 H4} s4 =>
          (s1'.trans (s4.weak (M' := M1 ++ M2) (Vs' := V2) mem_r (fun _ z => z) fun _ z => z)).weak (fun i hi => (List.mem_append.mp hi).elim id id) (fun i hi => (List.mem_append.mp hi).elim id id) fun _ z => z
        have po2 : PostS W C (M1 ++ M2) V2 tf fs env σ H E (match cb' env1 with
          | .nx env2 => whRun ct cb' m env2
          | .ct env2 => whRun ct cb' m env2
          | .bk env2 => .nx env2
          | o => o) := po1
        cases eb : cb' env1 with
        | nx env4 => rw [eb] at po2; exact fun fs4 σ4 H4 G4 s4 => ⟨fs4, env4, G4, comp s4, po2⟩
        | ct env4 => rw [eb] at po2; exact fun fs4 σ4 H4 G4 s4 => ⟨fs4, env4, G4, comp s4, po2⟩
        | bk env4 => rw [eb] at po2; exact fun fs4 σ4 H4 G4 s4 => po2 fs4 σ4 H4 G4 (comp s4)
        | rt d4 env4 => rw [eb] at po2; exact fun v fs4 σ4 H4 fp4 G4 s4 r4 => po2 v fs4 σ4 H4 fp4 G4 (comp s4) r4
        | ex x4 env4 => rw [eb] at po2; exact fun cv dd fs4 σ4 H4 G4 s4 => po2 cv dd fs4 σ4 H4 G4 (comp s4)
        | err => rw [eb] at po2; exact po2

/-! ### what is walked -/
/-- range(n) -/
def rngItems : List D → Option (List D)
  | [.int j] => if -(2 ^ 62) ≤ j ∧ j < 2 ^ 62 then some ((List.range j.toNat).map fun i => .int (i : Nat)) else none
  | _ => none
def iRange1 (cs : CA) : CA := fun env => (cs env).bind fun ds env => R.of (rngItems ds) env
theorem srcRange {lo : Int} {n : Nat} : SrcOk C (Itr lo n) ((List.range n).map fun (i : Nat) => D.int (lo + (i : Nat))) [] H := by
  refine ⟨?_⟩
  have hl : ((List.range n).map fun (i : Nat) => D.int (lo + (i : Nat))).length = n := by simp
  rw [hl]
  refine walk_range.mono (fun _ _ => trivial) fun i H x H' hi _ ⟨e1, e2⟩ => ?_
  subst e1 e2
  exact ⟨.refl _, .int (lo + i), by simp [hi], rfl, rfl⟩
theorem si_range1 {p2 : Pos} (hg : Gl X "range") (hm : X.mg "range" = none) (ha : SA X W M Rs [a] cs) (hs : starEach [a] X.env = [(false, eval a X.env)] := by rfl) : SI X W M [] tg (.Call (.Name "range" p2) [a] [] pos) (iRange1 cs) := by
  obtain ⟨t, p, q⟩ := ha.go
  refine ⟨iRng1 t, pi_range1 hg hm p hs, fun C fs env σ H tf Q hC G po => q C fs env σ H tf _ hC G ?_⟩
  unfold iRange1 at po
  cases e1 : cs env with
  | err => rw [e1] at po; exact po
  | ex x env' => rw [e1] at po; exact po
  | ok ds env1 =>
    rw [e1] at po
    intro vs fs1 H1 fp own G1 s1 r1 i1
    have po' : PostI W C M [] tf fs env σ H Q (R.of (rngItems ds) env1) := po
    cases e2 : rngItems ds with
    | none => rw [e2] at po'; exact po'.elim
    | some its =>
      rw [e2] at po'
      unfold rngItems at e2
      split at e2
      · rename_i j
        obtain ⟨v, rfl, r⟩ := reps1 r1
        obtain ⟨rfl, _⟩ := r
        split at e2
        · rename_i hj
          cases e2
          refine ⟨j, rfl, hj.1, hj.2, po' _ fs1 H1 [] [] (by simpa using G1.drop) s1 ?_ fun _ z => nomatch z⟩
          have := srcRange (C := C) (H := H1) (lo := 0) (n := j.toNat)
          simpa using this
        · cases e2
      · cases e2
/-- a list or tuple that stands, its items without nodes of ours -/
def iSeq (c : CE) : CA := fun env => (c env).bind fun d env => match d with
  | .lst _ ds => if imms ds then .ok ds env else .err
  | _ => .err
theorem reps_imm_get : ∀ {ds : List D} {vs : List V} {fp : List Addr} {i : Nat} {x : V}, Reps C H ds vs fp → imms ds = true → vs[i]? = some x → ∃ d, ds[i]? = some d ∧ Rep C H d x []
  | [], vs, fp, i, x, ⟨e, _⟩, _, h => by subst e; simp at h
  | d :: ds, vs, fp, 0, x, ⟨v, vs', f1, f2, e, r, rs, _⟩, hi, h => by
    subst e
    have z := Bool.and_eq_true_iff.mp hi
    simp at h; subst h
    have := r.imm z.1
    subst this
    exact ⟨d, by simp, r⟩
  | d :: ds, vs, fp, i + 1, x, ⟨v, vs', f1, f2, e, r, rs, _⟩, hi, h => by
    subst e
    have z := Bool.and_eq_true_iff.mp hi
    obtain ⟨d', h1, h2⟩ := reps_imm_get (i := i) rs z.2 (by simpa using h)
    exact ⟨d', by simpa using h1, h2⟩
theorem si_list (h : SB X W M Rs e ca) : SI X W M Rs tg e (iSeq ca) := by
  obtain ⟨t, p, q⟩ := h.go
  refine ⟨iList X.K t, pi_list p, fun C fs env σ H tf Q hC G po => q C fs env σ H tf _ hC G ?_⟩
  unfold iSeq at po
  cases e1 : ca env with
  | err => rw [e1] at po; exact po
  | ex x env' => rw [e1] at po; exact po
  | ok d env1 =>
    rw [e1] at po
    intro v fs1 H1 fp own G1 s1 r1 i1
    cases d with
    | lst g ds =>
      have po' : PostI W C M Rs tf fs env σ H Q (if imms ds then .ok ds env1 else .err) := po
      by_cases hi : imms ds = true
      · rw [if_pos hi] at po'
        have r1' := r1
        obtain ⟨a, vs, f1, f2, rfl, n, rs, hz, ef⟩ := r1
        have sq : SqL X.K H1 a vs := by have := (Nd.rd n G1.fr).sql; rwa [hC.1] at this
        refine ⟨a, rfl, ⟨vs, sq⟩, po' _ fs1 H1 fp own G1 s1 ⟨?_⟩ i1⟩
        have z := rs.imm hi
        subst z
        rw [reps_length rs]
        refine Walk.mono (walk_list (K := X.K) (a := a) (xs := vs)) (fun H2 ⟨hf2, hm, hk⟩ => ?_) fun i H2 x H3 hi2 ⟨hf2, hm, hk⟩ ⟨e1, e2⟩ => ?_
        · have n2 : Nd C H2 g a (.lst vs) f1 := Nd.keep n (fun b hb => hk b (by rw [ef]; simp [hb])) hm
          have := (Nd.rd n2 hf2).sql; rwa [hC.1] at this
        · subst e1
          have rs2 : Reps C H3 ds vs [] := rs.keep (fun b hb => nomatch hb) hm
          obtain ⟨d, h1, h2⟩ := reps_imm_get rs2 hi e2
          exact ⟨.refl _, d, h1, h2⟩
      · rw [if_neg hi] at po'; exact po'.elim
    | _ => exact po.elim
def iTupD (c : CE) : CA := fun env => (c env).bind fun d env => match d with
  | .tup ds => if imms ds then .ok ds env else .err
  | _ => .err
theorem si_tup (h : SB X W M Rs e ca) : SI X W M Rs tg e (iTupD ca) := by
  obtain ⟨t, p, q⟩ := h.go
  refine ⟨iTup X.K t, pi_tup p, fun C fs env σ H tf Q hC G po => q C fs env σ H tf _ hC G ?_⟩
  unfold iTupD at po
  cases e1 : ca env with
  | err => rw [e1] at po; exact po
  | ex x env' => rw [e1] at po; exact po
  | ok d env1 =>
    rw [e1] at po
    intro v fs1 H1 fp own G1 s1 r1 i1
    cases d with
    | tup ds =>
      have po' : PostI W C M Rs tf fs env σ H Q (if imms ds then .ok ds env1 else .err) := po
      by_cases hi : imms ds = true
      · rw [if_pos hi] at po'
        have r1' := r1
        obtain ⟨a, vs, rfl, n, rs⟩ := r1
        have sq : SqT X.K H1 a vs := by rwa [hC.1] at n
        refine ⟨a, rfl, ⟨vs, sq⟩, po' _ fs1 H1 fp own G1 s1 ⟨?_⟩ i1⟩
        have z := rs.imm hi
        subst z
        rw [reps_length rs]
        refine Walk.mono (walk_tup (K := X.K) (a := a) (xs := vs)) (fun H2 ⟨hf2, hm, hk⟩ => ?_) fun i H2 x H3 hi2 ⟨hf2, hm, hk⟩ ⟨e1, e2⟩ => ?_
        · exact sqt_keep sq hm
        · subst e1
          have rs2 : Reps C H3 ds vs [] := rs.keep (fun b hb => nomatch hb) hm
          obtain ⟨d, h1, h2⟩ := reps_imm_get rs2 hi e2
          exact ⟨.refl _, d, h1, h2⟩
      · rw [if_neg hi] at po'; exact po'.elim
    | _ => exact po.elim
end
end VS

set_option maxRecDepth 100000
namespace VS
open PySem L2 SeqAt PySem.Spec PyProof.Rows

/-! ### lending -/
section
variable {C C' : Ctx} {H : Hp}
/-- the callee's ctx: its entry is here, A is what it may change -/
structure Enter (C C' : Ctx) (H : Hp) : Prop where
  k : C'.K = C.K
  mg : C'.mg = C.mg
  h0 : C'.H0 = H
  lk : C'.Lk = C.Lk
  fr : Fr C H
  a : ∀ x ∈ C'.A, (x ∈ C.A ∨ C.H0 x = none) ∧ ∃ o, H x = some o ∧ Mutb o
theorem Enter.lnd {g a u fp} (E : Enter C C' H) (n : Nd C H g a u fp) (hd : ∀ b ∈ fp, b ∉ C'.A) : Nd C' H g.lend a u [] := by
  have z : ∀ {o w}, H a = some (.frz o w) → a ∉ C'.A := fun {o w} e hm => by
    obtain ⟨_, q, e2, mu⟩ := E.a a hm
    rw [e] at e2; cases e2; exact mu
  cases g with
  | m =>
    obtain ⟨e, rfl⟩ := n
    exact ⟨.inl ⟨by rw [E.h0]; exact .inl e, hd a (by simp)⟩, rfl⟩
  | l =>
    obtain ⟨⟨r, na⟩ | h, _⟩ := n
    · have nA : a ∉ C'.A := fun hm => by
        obtain ⟨q, o, e, mu⟩ := E.a a hm
        rcases q with q | q
        · exact na q
        · rcases r with r | ⟨ob, r⟩ <;> rw [q] at r <;> cases r
      refine ⟨.inl ⟨?_, nA⟩, rfl⟩
      rw [E.h0]
      rcases r with r | ⟨ob, r⟩
      · rcases E.fr a _ r na with q | ⟨_, _, ob, q⟩
        · exact .inl q
        · exact .inr ⟨ob, q⟩
      · rcases E.fr a _ r na with q | ⟨_, mu, ob2, q⟩
        · exact .inr ⟨ob, q⟩
        · exact mu.elim
    · exact ⟨.inr (by rw [E.k]; exact h), rfl⟩
  | f =>
    obtain ⟨⟨o, e⟩, x, _⟩ := n
    exact ⟨.inl ⟨by rw [E.h0]; exact .inr ⟨o, e⟩, z e⟩, rfl⟩
  | k =>
    obtain ⟨⟨o, e⟩, _⟩ := n
    exact ⟨.inl ⟨by rw [E.h0]; exact .inr ⟨o, e⟩, z e⟩, rfl⟩
theorem Enter.nd {g a u fp} (E : Enter C C' H) (n : Nd C H g a u fp) : Nd C' H g a u fp := by
  cases g with
  | m => exact n
  | l => obtain ⟨h, e⟩ := n; subst e; exact E.lnd (g := .l) ⟨h, rfl⟩ fun _ z => nomatch z
  | f => obtain ⟨⟨o, e⟩, x, q⟩ := n; exact ⟨⟨o, e⟩, by rw [E.lk]; exact x, q⟩
  | k => exact n
theorem clsOf_eq {c Ca} (h : C'.mg = C.mg) (q : clsOf C c Ca) : clsOf C' c Ca := by unfold clsOf at *; rw [h]; exact q
mutual
theorem Rep.enter (E : Enter C C' H) : ∀ {d : D} {v : V} {fp : List Addr}, Rep C H d v fp → Rep C' H d v fp
  | .non, v, fp, h => h
  | .bl b, v, fp, h => h
  | .int i, v, fp, h => h
  | .str s, v, fp, h => h
  | .ty s, v, fp, h => h
  | .tup ds, v, fp, ⟨a, vs, e, t, r⟩ => ⟨a, vs, e, by rw [E.k]; exact t, Reps.enter E r⟩
  | .lst g ds, v, fp, ⟨a, vs, f1, f2, e, n, r, z, e2⟩ => ⟨a, vs, f1, f2, e, E.nd n, Reps.enter E r, z, e2⟩
  | .dct g ks ds, v, fp, ⟨a, vs, f1, f2, e, n, q, r, z, e2⟩ => ⟨a, vs, f1, f2, e, E.nd n, q, Reps.enter E r, z, e2⟩
  | .obj g c ns ds, v, fp, ⟨a, Ca, dx, fs, f1, f2, e, c1, n, q, r, z, e2⟩ => ⟨a, Ca, dx, fs, f1, f2, e, clsOf_eq E.mg c1, E.nd n, q, Reps.enter E r, z, e2⟩
theorem Reps.enter (E : Enter C C' H) : ∀ {ds : List D} {vs : List V} {fp : List Addr}, Reps C H ds vs fp → Reps C' H ds vs fp
  | [], vs, fp, h => h
  | d :: ds, vs, fp, ⟨v, vs', f1, f2, e, r, rs, e2⟩ => ⟨v, vs', f1, f2, e, Rep.enter E r, Reps.enter E rs, e2⟩
end
mutual
theorem Rep.lend (E : Enter C C' H) : ∀ {d : D} {v : V} {fp : List Addr}, Rep C H d v fp → (∀ b ∈ fp, b ∉ C'.A) → Rep C' H d.lend v []
  | .non, v, fp, h, _ => ⟨h.1, rfl⟩
  | .bl b, v, fp, h, _ => ⟨h.1, rfl⟩
  | .int i, v, fp, h, _ => ⟨h.1, rfl⟩
  | .str s, v, fp, h, _ => ⟨h.1, rfl⟩
  | .ty s, v, fp, h, _ => ⟨h.1, rfl⟩
  | .tup ds, v, fp, ⟨a, vs, e, t, r⟩, hd => ⟨a, vs, e, by rw [E.k]; exact t, Reps.lend E r hd⟩
  | .lst g ds, v, fp, ⟨a, vs, f1, f2, e, n, r, z, e2⟩, hd => ⟨a, vs, [], [], e, E.lnd n (fun b hb => hd b (by rw [e2]; exact List.mem_append_left _ hb)), Reps.lend E r (fun b hb => hd b (by rw [e2]; exact List.mem_append_right _ hb)), .inr rfl, rfl⟩
  | .dct g ks ds, v, fp, ⟨a, vs, f1, f2, e, n, q, r, z, e2⟩, hd => ⟨a, vs, [], [], e, E.lnd n (fun b hb => hd b (by rw [e2]; exact List.mem_append_left _ hb)), q, Reps.lend E r (fun b hb => hd b (by rw [e2]; exact List.mem_append_right _ hb)), .inr rfl, rfl⟩
  | .obj g c ns ds, v, fp, ⟨a, Ca, dx, fs, f1, f2, e, c1, n, q, r, z, e2⟩, hd => ⟨a, Ca, dx, fs, [], [], e, clsOf_eq E.mg c1, E.lnd n (fun b hb => hd b (by rw [e2]; exact List.mem_append_left _ hb)), q, Reps.lend E r (fun b hb => hd b (by rw [e2]; exact List.mem_append_right _ hb)), .inr rfl, rfl⟩
theorem Reps.lend (E : Enter C C' H) : ∀ {ds : List D} {vs : List V} {fp : List Addr}, Reps C H ds vs fp → (∀ b ∈ fp, b ∉ C'.A) → Reps C' H (lends ds) vs []
  | [], vs, fp, h, _ => ⟨h.1, rfl⟩
  | d :: ds, vs, fp, ⟨v, vs', f1, f2, e, r, rs, e2⟩, hd => ⟨v, vs', [], [], e, Rep.lend E r (fun b hb => hd b (by rw [e2]; exact List.mem_append_left _ hb)), Reps.lend E rs (fun b hb => hd b (by rw [e2]; exact List.mem_append_right _ hb)), rfl⟩
end
mutual
/-- what has nothing lent reads the same outside -/
theorem Rep.leave (hk : C'.K = C.K) (hm : C'.mg = C.mg) (hl : C'.Lk = C.Lk) : ∀ {d : D} {v : V} {fp : List Addr}, Rep C' H d v fp → d.nol = true → Rep C H d v fp
  | .non, v, fp, h, _ => h
  | .bl b, v, fp, h, _ => h
  | .int i, v, fp, h, _ => h
  | .str s, v, fp, h, _ => h
  | .ty s, v, fp, h, _ => h
  | .tup ds, v, fp, ⟨a, vs, e, t, r⟩, hn => ⟨a, vs, e, by rw [← hk]; exact t, Reps.leave hk hm hl r hn⟩
  | .lst g ds, v, fp, ⟨a, vs, f1, f2, e, n, r, z, e2⟩, hn => ⟨a, vs, f1, f2, e, nd_leave hl n (Bool.and_eq_true_iff.mp hn).1, Reps.leave hk hm hl r (Bool.and_eq_true_iff.mp hn).2, z, e2⟩
  | .dct g ks ds, v, fp, ⟨a, vs, f1, f2, e, n, q, r, z, e2⟩, hn => ⟨a, vs, f1, f2, e, nd_leave hl n (Bool.and_eq_true_iff.mp hn).1, q, Reps.leave hk hm hl r (Bool.and_eq_true_iff.mp hn).2, z, e2⟩
  | .obj g c ns ds, v, fp, ⟨a, Ca, dx, fs, f1, f2, e, c1, n, q, r, z, e2⟩, hn => ⟨a, Ca, dx, fs, f1, f2, e, clsOf_eq hm.symm c1, nd_leave hl n (Bool.and_eq_true_iff.mp hn).1, q, Reps.leave hk hm hl r (Bool.and_eq_true_iff.mp hn).2, z, e2⟩
theorem Reps.leave (hk : C'.K = C.K) (hm : C'.mg = C.mg) (hl : C'.Lk = C.Lk) : ∀ {ds : List D} {vs : List V} {fp : List Addr}, Reps C' H ds vs fp → nols ds = true → Reps C H ds vs fp
  | [], vs, fp, h, _ => h
  | d :: ds, vs, fp, ⟨v, vs', f1, f2, e, r, rs, e2⟩, hn => ⟨v, vs', f1, f2, e, Rep.leave hk hm hl r (Bool.and_eq_true_iff.mp hn).1, Reps.leave hk hm hl rs (Bool.and_eq_true_iff.mp hn).2, e2⟩
theorem nd_leave {g a u fp} (hl : C'.Lk = C.Lk) (n : Nd C' H g a u fp) (h : (g == .m || g == .f) = true) : Nd C H g a u fp := by
  cases g with
  | m => exact n
  | l => cases h
  | f => obtain ⟨⟨o, e⟩, x, q⟩ := n; exact ⟨⟨o, e⟩, by rw [← hl]; exact x, q⟩
  | k => cases h
end
end

/-! ### defs -/
inductive FR where
  | ok (r : D) (outs : List D)
  | ex (x : Exn) (outs : List D)
  | err
def outsOf : List Bool → Env → Option (List D)
  | [], _ => some []
  | true :: bs, some d :: env => (outsOf bs env).map (d :: ·)
  | false :: bs, _ :: env => outsOf bs env
  | _, _ => none
def fnEnd (io : List Bool) : O → FR
  | .nx env => match outsOf io env with
    | some os => .ok .non os
    | none => .err
  | .rt d env => match outsOf io env with
    | some os => .ok d os
    | none => .err
  | .ex x env => match outsOf io env with
    | some os => .ex x os
    | none => .err
  | _ => .err
def fnEnv (n : Nat) (ds : List D) : Env := ds.map some ++ List.replicate (n - ds.length) none
/-- a def with n names; io tells which of its parameters it may change -/
def fnRun (n : Nat) (io : List Bool) (c : CS) (ds : List D) : FR := if ds.length = io.length ∧ io.length ≤ n then fnEnd io (c (fnEnv n ds)) else .err

/-- arguments: the io ones owned, the others lent -/
def ArgR (C : Ctx) (H : Hp) : List Bool → List D → List V → FPs → Prop
  | [], ds, vs, fps => ds = [] ∧ vs = [] ∧ fps = []
  | b :: bs, ds, vs, fps => ∃ d ds' v vs' fp fps', ds = d :: ds' ∧ vs = v :: vs' ∧ fps = fp :: fps' ∧ Rep C H d v fp ∧ (b = true ∨ fp = []) ∧ ArgR C H bs ds' vs' fps'
/-- what the io ones are behind -/
def OutR (C : Ctx) (H : Hp) : List Bool → List D → List V → FPs → Prop
  | [], os, vs, fps => os = [] ∧ fps = []
  | true :: bs, os, vs, fps => ∃ o os' v vs' fp fps', os = o :: os' ∧ vs = v :: vs' ∧ fps = fp :: fps' ∧ Rep C H o v fp ∧ OutR C H bs os' vs' fps'
  | false :: bs, os, vs, fps => ∃ v vs', vs = v :: vs' ∧ OutR C H bs os vs' fps
def PostF (C : Ctx) (H : Hp) (io : List Bool) (vs : List V) (Q : VK) (E : XK) : FR → Prop
  | .ok r os => ∀ v H' fp fps, Fr C H' → Mono H H' → Rep C H' r v fp → OutR C H' io os vs fps → (fp ++ fps.flatten).Nodup → (∀ a ∈ fp ++ fps.flatten, a ∈ C.A ∨ H a = none) → Q v H'
  | .ex x os => ∀ cv dd H' fps, Fr C H' → Mono H H' → ExIs C x cv dd H' → OutR C H' io os vs fps → fps.flatten.Nodup → (∀ a ∈ fps.flatten, a ∈ C.A ∨ H a = none) → E cv dd H'
  | .err => False
/-- the promise of a def that comes to φ -/
def spF (K : PySem.W.Frag) (mg : Str → Option Value) (io : List Bool) (φ : List D → FR) : Sp := fun vs H Q E => ∃ (Lk : List Addr) (ds : List D) (fps : FPs),
  vs.length = io.length ∧ ArgR ⟨K, mg, H, fps.flatten, Lk⟩ H io ds vs fps ∧ fps.flatten.Nodup ∧ (∀ a ∈ Lk, ∃ ob u, H a = some (.frz ob u)) ∧ PostF ⟨K, mg, H, fps.flatten, Lk⟩ H io vs Q E (φ ds)

theorem fr_entry {C : Ctx} {H : Hp} (h : C.H0 = H) : Fr C H := fun a o e _ => .inl (by rw [← h]; exact e)
theorem ArgR.len {C H} : ∀ {io ds vs fps}, ArgR C H io ds vs fps → ds.length = io.length ∧ vs.length = io.length ∧ fps.length = io.length
  | [], ds, vs, fps, ⟨h1, h2, h3⟩ => by subst h1 h2 h3; exact ⟨rfl, rfl, rfl⟩
  | b :: bs, ds, vs, fps, ⟨d, ds', v, vs', fp, fps', h1, h2, h3, _, _, r⟩ => by
    subst h1 h2 h3
    obtain ⟨a1, a2, a3⟩ := ArgR.len r
    exact ⟨by simp [a1], by simp [a2], by simp [a3]⟩
theorem ArgR.get {C H} : ∀ {io ds vs fps} {i : Nat} {d : D}, ArgR C H io ds vs fps → ds[i]? = some d → ∃ v, vs[i]? = some v ∧ Rep C H d v (fps.getD i [])
  | [], ds, vs, fps, i, d, ⟨h1, h2, h3⟩, h => by subst h1; simp at h
  | b :: bs, ds, vs, fps, 0, d, ⟨d0, ds', v, vs', fp, fps', h1, h2, h3, r, _, _⟩, h => by
    subst h1 h2 h3
    simp at h; subst h
    exact ⟨v, by simp, by simpa using r⟩
  | b :: bs, ds, vs, fps, i + 1, d, ⟨d0, ds', v, vs', fp, fps', h1, h2, h3, _, _, r⟩, h => by
    subst h1 h2 h3
    obtain ⟨v', h1, h2⟩ := ArgR.get (i := i) r (by simpa using h)
    exact ⟨v', by simpa using h1, by simpa using h2⟩
theorem ArgR.trk {C H} : ∀ {io ds vs fps}, ArgR C H io ds vs fps → ∀ a ∈ fps.flatten, ∃ o, H a = some o ∧ Mutb o
  | [], ds, vs, fps, ⟨h1, h2, h3⟩ => by subst h3; intro a ha; simp at ha
  | b :: bs, ds, vs, fps, ⟨d0, ds', v, vs', fp, fps', h1, h2, h3, r, _, rs⟩ => by
    subst h3
    intro a ha
    rw [List.flatten_cons] at ha
    exact (List.mem_append.mp ha).elim (r.trk a) (ArgR.trk rs a)
theorem flat_rep (fps : FPs) (n : Nat) : (fps ++ List.replicate n []).flatten = fps.flatten := by
  rw [List.flatten_append]
  have : (List.replicate n ([] : List Addr)).flatten = [] := by
    rw [List.flatten_eq_nil_iff]; intro l hl; exact (List.mem_replicate.mp hl).2
  rw [this, List.append_nil]
/-- a def's entry -/
theorem good_start {C : Ctx} {H : Hp} {N : List Str} {io ds vs fps} (h0 : C.H0 = H) (hA : C.A = fps.flatten) (r : ArgR C H io ds vs fps) (nd : fps.flatten.Nodup) (hl : io.length ≤ N.length) (hk : ∀ a ∈ C.Lk, ∃ ob u, H a = some (.frz ob u)) :
    Good C (fps ++ List.replicate (N.length - fps.length) []) (fnEnv N.length ds) (L2.start N vs) H [] := by
  obtain ⟨l1, l2, l3⟩ := r.len
  refine ⟨?_, ?_, fun i d e => ?_, ?_, fun a ha => ?_, fun a ha => ?_, fr_entry h0, hk⟩
  · simp [fnEnv, L2.start]; omega
  · simp [L2.start]; omega
  · unfold fnEnv at e
    have hi : i < ds.length := by
      by_cases hi : i < ds.length
      · exact hi
      · rw [List.getElem?_append_right (by simp; omega)] at e
        rw [List.getElem?_replicate] at e
        split at e <;> simp at e
    rw [List.getElem?_append_left (by simpa using hi), List.getElem?_map] at e
    have e' : ds[i]? = some d := by
      cases q : ds[i]? with
      | none => rw [q] at e; simp at e
      | some x => rw [q] at e; simp at e; rw [e]
    obtain ⟨v, h1, h2⟩ := r.get e'
    refine ⟨v, ?_, ?_⟩
    · unfold L2.start
      rw [List.getElem?_append_left (by simp; omega), List.getElem?_map, h1]; rfl
    · have : (fps ++ List.replicate (N.length - fps.length) []).getD i [] = fps.getD i [] := by
        rw [List.getD_eq_getElem?_getD, List.getD_eq_getElem?_getD, List.getElem?_append_left (by omega)]
      rw [this]; exact h2
  · rw [flat_rep, List.append_nil]; exact nd
  · rw [flat_rep, List.append_nil] at ha; exact .inl (by rw [hA]; exact ha)
  · rw [flat_rep, List.append_nil] at ha; exact r.trk a ha
/-- the slots of the io parameters, from slot n on -/
def ioSlots : Nat → List Bool → List Nat
  | _, [] => []
  | n, true :: bs => n :: ioSlots (n + 1) bs
  | n, false :: bs => ioSlots (n + 1) bs
theorem fl_sub : ∀ {l : FPs} {i : Nat} {x : List Addr}, l[i]? = some x → x.Sublist l.flatten
  | f :: l, 0, x, h => by simp at h; subst h; simp [List.flatten_cons]
  | f :: l, i + 1, x, h => by
    rw [List.flatten_cons]
    exact (fl_sub (l := l) (i := i) (by simpa using h)).trans (List.sublist_append_right _ _)
theorem outs_at {C : Ctx} {H' : Hp} {fs : FPs} {env : Env} {σ : L2.St} (hrep : ∀ i d, env[i]? = some (some d) → ∃ v, σ[i]? = some (some v) ∧ Rep C H' d v (fs.getD i [])) : ∀ {n : Nat} {io : List Bool} {os : List D} {vs : List V},
    outsOf io (env.drop n) = some os → vs.length = io.length → (∀ j ∈ ioSlots n io, σ[j]? = (vs[j - n]?).map some) → OutR C H' io os vs ((ioSlots n io).map fun j => fs.getD j [])
  | n, [], os, vs, h, hl, hv => by simp [outsOf] at h; exact ⟨h.symm ▸ rfl, rfl⟩
  | n, true :: bs, os, vs, h, hl, hv => by
    cases vs with
    | nil => simp at hl
    | cons v vs =>
      cases q : env.drop n with
      | nil => rw [q] at h; simp [outsOf] at h
      | cons od rest =>
        rw [q] at h
        cases od with
        | none => simp [outsOf] at h
        | some d =>
          have hd : env[n]? = some (some d) := by
            have := congrArg List.head? q
            simpa [List.head?_drop] using this
          have hrest : rest = env.drop (n + 1) := by
            have := congrArg List.tail q
            simpa [List.tail_drop] using this.symm
          simp only [outsOf] at h
          obtain ⟨os', h1, rfl⟩ := Option.map_eq_some_iff.mp h
          rw [hrest] at h1
          obtain ⟨w, e1, r⟩ := hrep n d hd
          have := hv n (by simp [ioSlots])
          simp at this
          rw [this] at e1; cases e1
          refine ⟨d, os', v, vs, _, _, rfl, rfl, rfl, r, outs_at hrep h1 (by simpa using hl) fun j hj => ?_⟩
          have hj1 : n + 1 ≤ j := by
            have key : ∀ (bs : List Bool) (m : Nat), ∀ j ∈ ioSlots m bs, m ≤ j := by
              intro bs
              induction bs with
              | nil => intro m j h; simp [ioSlots] at h
              | cons b bs ih =>
                intro m j h
                cases b with
                | true =>
                  simp only [ioSlots, List.mem_cons] at h
                  rcases h with h | h
                  · omega
                  · have := ih _ _ h; omega
                | false => simp only [ioSlots] at h; have := ih _ _ h; omega
            exact key bs (n + 1) j hj
          have := hv j (by simp [ioSlots, hj])
          rw [this]
          have e : j - n = (j - (n + 1)) + 1 := by omega
          rw [e]; simp
  | n, false :: bs, os, vs, h, hl, hv => by
    cases vs with
    | nil => simp at hl
    | cons v vs =>
      cases q : env.drop n with
      | nil => rw [q] at h; simp [outsOf] at h
      | cons od rest =>
        rw [q] at h
        have hrest : rest = env.drop (n + 1) := by
          have := congrArg List.tail q
          simpa [List.tail_drop] using this.symm
        simp only [outsOf] at h
        rw [hrest] at h
        refine ⟨v, vs, rfl, outs_at hrep h (by simpa using hl) fun j hj => ?_⟩
        have hj1 : n + 1 ≤ j := by
          have key : ∀ (bs : List Bool) (m : Nat), ∀ j ∈ ioSlots m bs, m ≤ j := by
            intro bs
            induction bs with
            | nil => intro m j h; simp [ioSlots] at h
            | cons b bs ih =>
              intro m j h
              cases b with
              | true =>
                simp only [ioSlots, List.mem_cons] at h
                rcases h with h | h
                · omega
                · have := ih _ _ h; omega
              | false => simp only [ioSlots] at h; have := ih _ _ h; omega
          exact key bs (n + 1) j hj
        have := hv j (by simp [ioSlots, hj])
        rw [this]
        have e : j - n = (j - (n + 1)) + 1 := by omega
        rw [e]; simp
theorem ioSlots_lt : ∀ (io : List Bool) (n : Nat), ∀ j ∈ ioSlots n io, n ≤ j ∧ j < n + io.length
  | [], n => by intro j h; simp [ioSlots] at h
  | true :: bs, n => by
    intro j h
    simp only [ioSlots, List.mem_cons] at h
    rcases h with h | h
    · simp; omega
    · have := ioSlots_lt bs _ _ h; simp; omega
  | false :: bs, n => by
    intro j h
    simp only [ioSlots] at h
    have := ioSlots_lt bs _ _ h; simp; omega
theorem ioSlots_sub : ∀ (io : List Bool) (n : Nat) (fs : FPs), (((ioSlots n io).map fun j => fs.getD j []).flatten).Sublist ((fs.drop n).flatten)
  | [], n, fs => by simp [ioSlots]
  | true :: bs, n, fs => by
    simp only [ioSlots, List.map_cons, List.flatten_cons]
    cases q : fs.drop n with
    | nil =>
      have hn : fs.length ≤ n := by simpa using q
      have : fs.getD n [] = [] := by rw [List.getD_eq_getElem?_getD, List.getElem?_eq_none hn]; rfl
      rw [this, List.nil_append]
      have := ioSlots_sub bs (n + 1) fs
      rw [List.drop_eq_nil_of_le (by omega)] at this
      exact this
    | cons f r =>
      have e1 : fs.getD n [] = f := by
        have := congrArg List.head? q
        rw [List.head?_drop] at this
        rw [List.getD_eq_getElem?_getD, this]; rfl
      have e2 : fs.drop (n + 1) = r := by
        have := congrArg List.tail q
        simpa [List.tail_drop] using this
      rw [e1, List.flatten_cons]
      have := ioSlots_sub bs (n + 1) fs
      rw [e2] at this
      exact (List.Sublist.refl f).append this
  | false :: bs, n, fs => by
    simp only [ioSlots]
    refine (ioSlots_sub bs (n + 1) fs).trans ?_
    cases q : fs.drop n with
    | nil =>
      have hn : fs.length ≤ n := by simpa using q
      rw [List.drop_eq_nil_of_le (by omega)]; simp
    | cons f r =>
      have e2 : fs.drop (n + 1) = r := by
        have := congrArg List.tail q
        simpa [List.tail_drop] using this
      rw [e2, List.flatten_cons]
      exact List.sublist_append_right _ _

/-- a def's body comes to what fnRun tells -/
theorem fn_core {X : Cx} {K : PySem.W.Frag} {mg : Str → Option Value} {scope : Scope} {sts : List Stmt} {N ps : List Str} {io : List Bool} {c : CS} {M Vs : List Nat} {vs : List V} {H : Hp} {Q : VK} {E : XK} (hK : K = X.K) (hmg : mg = X.mg)
    (S : FnScope N ps scope) (hio : io.length = ps.length) (hv : djB (ioSlots 0 io) Vs = true) (hb : SSs X (fun cls d _ H => E cls d H) M Vs sts c) (h : spF K mg io (fnRun N.length io c) vs H Q E) :
    ∃ t, PSs X sts t ∧ t { nx := fun _ H' => Q .non H', rt := Q } (L2.start N vs) H := by
  obtain ⟨Lk, ds, fps, hl, hA, nd, hk, po⟩ := h
  obtain ⟨t, p, q⟩ := hb.go
  refine ⟨t, p, ?_⟩
  obtain ⟨l1, l2, l3⟩ := hA.len
  have hN : io.length ≤ N.length := by
    have := congrArg List.length S.pre
    rw [List.length_take] at this
    omega
  have G := good_start (C := ⟨K, mg, H, fps.flatten, Lk⟩) (N := N) rfl rfl hA nd hN hk
  unfold fnRun at po
  rw [if_pos ⟨l1, hN⟩] at po
  have vals : ∀ {σ' : L2.St}, (∀ i, i ∉ Vs → σ'[i]? = (L2.start N vs)[i]?) → ∀ j ∈ ioSlots 0 io, σ'[j]? = (vs[j - 0]?).map some := fun {σ'} h j hj => by
    rw [h j (djB_ok hv j hj), Nat.sub_zero]
    have := ioSlots_lt io 0 j hj
    unfold L2.start
    rw [List.getElem?_append_left (by simp; omega), List.getElem?_map]
  have own : ∀ {fs' env' σ' H' fp}, Good ⟨K, mg, H, fps.flatten, Lk⟩ fs' env' σ' H' (fp ++ []) → (fp ++ ((ioSlots 0 io).map fun j => fs'.getD j []).flatten).Nodup ∧ ∀ a ∈ fp ++ ((ioSlots 0 io).map fun j => fs'.getD j []).flatten, a ∈ fps.flatten ∨ H a = none := fun {fs' env' σ' H' fp} G' => by
    have sub := ioSlots_sub io 0 fs'
    rw [List.drop_zero] at sub
    have p1 : (fp ++ fs'.flatten).Perm (fs'.flatten ++ (fp ++ [])) := by rw [List.append_nil]; exact List.perm_append_comm
    have s2 := (List.Sublist.refl fp).append sub
    exact ⟨(p1.nodup_iff.mpr G'.nd).sublist s2, fun a ha => G'.own a (p1.mem_iff.mp (s2.subset ha))⟩
  refine q ⟨K, mg, H, fps.flatten, Lk⟩ _ (fnEnv N.length ds) (L2.start N vs) H [] _ ⟨hK, hmg⟩ G ?_
  cases eo : c (fnEnv N.length ds) with
  | nx env' =>
    rw [eo] at po
    intro fs' σ' H' G' s'
    simp only [fnEnd] at po
    cases e2 : outsOf io env' with
    | none => rw [e2] at po; exact po.elim
    | some os =>
      rw [e2] at po
      obtain ⟨o1, o2⟩ := own (fp := []) (by simpa using G')
      exact po .non H' [] _ G'.fr s'.s.m ⟨rfl, rfl⟩ (outs_at (n := 0) G'.rep (by rw [List.drop_zero]; exact e2) hl (vals s'.v)) o1 o2
  | rt d env' =>
    rw [eo] at po
    intro v fs' σ' H' fp G' s' r
    simp only [fnEnd] at po
    cases e2 : outsOf io env' with
    | none => rw [e2] at po; exact po.elim
    | some os =>
      rw [e2] at po
      obtain ⟨o1, o2⟩ := own G'
      exact po v H' fp _ G'.fr s'.s.m r (outs_at (n := 0) G'.rep (by rw [List.drop_zero]; exact e2) hl (vals s'.v)) o1 o2
  | ex x env' =>
    rw [eo] at po
    intro cv dd fs' σ' H' G' s' hx
    simp only [fnEnd] at po
    cases e2 : outsOf io env' with
    | none => rw [e2] at po; exact po.elim
    | some os =>
      rw [e2] at po
      obtain ⟨o1, o2⟩ := own (fp := []) (by simpa using G')
      exact po cv dd H' _ G'.fr s'.s.m hx (outs_at (n := 0) G'.rep (by rw [List.drop_zero]; exact e2) hl (vals s'.v)) (by simpa using o1) (by simpa using o2)
  | bk env' => rw [eo] at po; exact po.elim
  | ct env' => rw [eo] at po; exact po.elim
  | err => rw [eo] at po; exact po.elim
/-- a def comes to fnRun of its body -/
theorem fn_ok {P : Program} {w : World} {K : PySem.W.Frag} {mg : Str → Option Value} {base : Heap} {x qual : Str} {st : Stmt} {f : Addr} {fd : FuncData} {N ps : List Str} {k : Nat} {io : List Bool} {c : CS} {M Vs : List Nat}
    (F : Fun K x qual st f fd) (S : FnScope N ps (defScope st)) (hio : io.length = ps.length) (hv : djB (ioSlots 0 io) Vs = true)
    (hb : ∀ (cdv : Value) (A : Around) (outer : List PySem.Env) (s : Shared) (H : Hp) (E : XK), Room k (A.deeper (envOfC qual (defScope st) s.heap.objs.size f cdv)) →
      SSs (cxOf (L2.CX P w) P w K mg base N qual (defScope st) f cdv A outer s H E) (fun cls d _ H => E cls d H) M Vs (defBody st) c) :
    FnOk P w K mg base (L2.CX P w) (k + 1) f fd ps (spF K mg io (fnRun N.length io c)) := by
  refine F.okX S (fun vs H Q E h => by obtain ⟨Lk, ds, fps, hl, _⟩ := h; rw [hl, hio]) fun cdv A outer s H vs Q E hr h => ?_
  exact fn_core rfl rfl S hio hv (hb cdv A outer s H E hr) h
end VS

set_option maxRecDepth 100000
namespace VS
open PySem L2 SeqAt

/-- an argument: lent, or owned (and put back into a slot behind the call) -/
inductive AV where
  | ro (d : D)
  | ow (d : D) (wb : Option Nat)
def AV.d : AV → D
  | .ro d => d.lend
  | .ow d _ => d
def AV.io : AV → Bool
  | .ro _ => false
  | .ow _ _ => true
def wbOk (σ : St) (Ms : List Nat) (v : V) : Option Nat → Prop
  | none => True
  | some i => σ[i]? = some (some v) ∧ i ∈ Ms
def AOk (C : Ctx) (H : Hp) (σ : St) (Ms Rs : List Nat) (fs : FPs) (ownr : List Addr) : List AV → List V → FPs → Prop
  | [], vs, fps => vs = [] ∧ fps = []
  | .ro d :: as, vs, fps => ∃ v vs' fp fps', vs = v :: vs' ∧ fps = [] :: fps' ∧ Rep C H d v fp ∧ In Rs ownr fs fp ∧ AOk C H σ Ms Rs fs ownr as vs' fps'
  | .ow d wb :: as, vs, fps => ∃ v vs' fp fps', vs = v :: vs' ∧ fps = fp :: fps' ∧ Rep C H d v fp ∧ wbOk σ Ms v wb ∧ AOk C H σ Ms Rs fs ownr as vs' fps'
def PostR (W : WX) (C : Ctx) (M Rs : List Nat) (tf : List Addr) (fs : FPs) (env : Env) (σ : St) (H : Hp) (Q : List V → Hp → Prop) : R (List AV) → Prop
  | .ok avs env' => ∀ vs fs' H' fps ownr, Good C fs' env' σ H' (fps.flatten ++ (ownr ++ tf)) → Step M tf fs env H fs' env' H' → AOk C H' σ M Rs fs' ownr avs vs fps → Q vs H'
  | .ex x env' => ∀ cv dd fs' H', Good C fs' env' σ H' tf → Step M tf fs env H fs' env' H' → ExIs C x cv dd H' → W cv dd σ H'
  | .err => False
structure SR (X : Cx) (W : WX) (M Rs : List Nat) (es : List Expr) (c : Env → R (List AV)) : Prop where
  go : ∃ t, PA X es t ∧ ∀ C fs env σ H tf Q, C.At X → Good C fs env σ H tf → PostR W C M Rs tf fs env σ H Q (c env) → t σ H Q

section
variable {X : Cx} {W : WX} {M M1 M2 M3 V1 V2 V3 Rs R1 R2 R3 : List Nat} {e a b c tg : Expr} {es : List Expr} {ca cb cc : CE} {pos p : Pos} {cr : Env → R (List AV)}
variable {pins : List (Addr × Obj)} {σ : St} {H H1 H2 : Hp} {s : Shared} {C C' : Ctx} {fs fs1 fs2 : FPs} {env env1 env2 : Env} {tf tf' own : List Addr}
theorem Good.perm (G : Good C fs env σ H tf) (h : tf'.Perm tf) : Good C fs env σ H tf' := by
  have p := h.append_left fs.flatten
  exact ⟨G.le, G.lf, G.rep, p.nodup_iff.mpr G.nd, fun a ha => G.own a (p.mem_iff.mp ha), fun a ha => G.trk a (p.mem_iff.mp ha), G.fr, G.lk⟩
theorem wbOk.mono {v} {M1 M2 : List Nat} (h : ∀ i ∈ M1, i ∈ M2) : ∀ {wb}, wbOk σ M1 v wb → wbOk σ M2 v wb
  | none, _ => trivial
  | some i, ⟨a, b⟩ => ⟨a, h i b⟩
theorem AOk.mono {ownr ownr'} (h : ∀ i ∈ M1, i ∈ M2) (hr : ∀ i ∈ R1, i ∈ R2) (ho : ∀ a ∈ ownr, a ∈ ownr') : ∀ {avs vs fps}, AOk C H σ M1 R1 fs ownr avs vs fps → AOk C H σ M2 R2 fs ownr' avs vs fps
  | [], vs, fps, x => x
  | .ro d :: as, vs, fps, ⟨v, vs', fp, fps', e1, e2, r, i, x⟩ => ⟨v, vs', fp, fps', e1, e2, r, i.mono hr ho, AOk.mono h hr ho x⟩
  | .ow d wb :: as, vs, fps, ⟨v, vs', fp, fps', e1, e2, r, i, x⟩ => ⟨v, vs', fp, fps', e1, e2, r, i.mono h, AOk.mono h hr ho x⟩
def aNil : Env → R (List AV) := fun env => .ok [] env
theorem sr_nil : SR X W [] [] [] aNil := by
  refine ⟨tNil, pa_nil, fun C fs env σ H tf Q hC G po => ?_⟩
  exact po [] fs H [] [] (by simpa using G) .refl ⟨rfl, rfl⟩
def aRo (ca : CE) (cr : Env → R (List AV)) : Env → R (List AV) := fun env => (ca env).bind fun d env => (cr env).bind fun as env => .ok (.ro d :: as) env
def aOw (ca : CE) (wb : Option Nat) (cr : Env → R (List AV)) : Env → R (List AV) := fun env => (ca env).bind fun d env => (cr env).bind fun as env => .ok (.ow d wb :: as) env
theorem sr_ro (ha : SB X W M1 R1 a ca) (hr : SR X W M2 R2 es cr) (hd : djB R1 M2 = true := by decide) (hs : starEach (a :: es) X.env = (false, eval a X.env) :: starEach es X.env := by rfl) : SR X W (M1 ++ M2) (R1 ++ R2) (a :: es) (aRo ca cr) := by
  obtain ⟨t, p, q⟩ := ha.go
  obtain ⟨t2, p2, q2⟩ := hr.go
  refine ⟨tCons t t2, pa_cons p p2 hs, fun C fs env σ H tf Q hC G po => ?_⟩
  refine q C fs env σ H tf _ hC G ?_
  unfold aRo at po
  cases e1 : ca env with
  | err => rw [e1] at po; exact po
  | ex x env' => rw [e1] at po; exact fun cv dd fs' H' G' s => po cv dd fs' H' G' (s.weak mem_l fun _ z => z)
  | ok d env1 =>
    rw [e1] at po
    intro v fs1 H1 fp1 own1 G1 s1 r1 i1
    refine q2 C fs1 env1 σ H1 (own1 ++ tf) _ hC G1 ?_
    have po' : PostR W C (M1 ++ M2) (R1 ++ R2) tf fs env σ H Q ((cr env1).bind fun as env => .ok (.ro d :: as) env) := po
    cases e2 : cr env1 with
    | err => rw [e2] at po'; exact po'
    | ex x env' => rw [e2] at po'; exact fun cv dd fs' H' G' s => po' cv dd fs' H' G'.drop (s1.trans (s.weak (fun _ z => z) fun x hx => List.mem_append_right _ hx))
    | ok as env2 =>
      rw [e2] at po'
      intro vs fs2 H2 fps ownr G2 s2 r2
      have po2 : ∀ vs fs' H' fps ownr, Good C fs' env2 σ H' (fps.flatten ++ (ownr ++ tf)) → Step (M1 ++ M2) tf fs env H fs' env2 H' → AOk C H' σ (M1 ++ M2) (R1 ++ R2) fs' ownr (.ro d :: as) vs fps → Q vs H' := po'
      refine po2 (v :: vs) fs2 H2 ([] :: fps) (ownr ++ own1) (by simpa using G2) (s1.trans (s2.weak (fun _ z => z) fun x hx => List.mem_append_right _ hx)) ?_
      exact ⟨v, vs, fp1, fps, rfl, rfl, r1.keep (i1.keep s2 (djB_ok hd)) s2.m, (i1.step (own2 := ownr) s2 (djB_ok hd)).mono mem_l fun _ z => z, r2.mono mem_r mem_r fun _ z => List.mem_append_left _ z⟩
theorem ow_go {t : TE} {t2 : TA} {wb : Option Nat} (hs : starEach (a :: es) X.env = (false, eval a X.env) :: starEach es X.env) (p : PE X a t) (p2 : PA X es t2)
    (q : ∀ C fs env σ H tf Q, C.At X → Good C fs env σ H tf → (match ca env with
      | .ok d env' => ∀ v fs' H' fp, Good C fs' env' σ H' (fp ++ tf) → Step M1 tf fs env H fs' env' H' → Rep C H' d v fp → wbOk σ M1 v wb → Q v H'
      | .ex x env' => ∀ cv dd fs' H', Good C fs' env' σ H' tf → Step M1 tf fs env H fs' env' H' → ExIs C x cv dd H' → W cv dd σ H'
      | .err => False) → t σ H Q)
    (q2 : ∀ C fs env σ H tf Q, C.At X → Good C fs env σ H tf → PostR W C M2 R2 tf fs env σ H Q (cr env) → t2 σ H Q) : SR X W (M1 ++ M2) R2 (a :: es) (aOw ca wb cr) := by
  refine ⟨tCons t t2, pa_cons p p2 hs, fun C fs env σ H tf Q hC G po => ?_⟩
  refine q C fs env σ H tf _ hC G ?_
  unfold aOw at po
  cases e1 : ca env with
  | err => rw [e1] at po; exact po
  | ex x env' => rw [e1] at po; exact fun cv dd fs' H' G' s => po cv dd fs' H' G' (s.weak mem_l fun _ z => z)
  | ok d env1 =>
    rw [e1] at po
    intro v fs1 H1 fp1 G1 s1 r1 w1
    refine q2 C fs1 env1 σ H1 (fp1 ++ tf) _ hC G1 ?_
    have po' : PostR W C (M1 ++ M2) R2 tf fs env σ H Q ((cr env1).bind fun as env => .ok (.ow d wb :: as) env) := po
    cases e2 : cr env1 with
    | err => rw [e2] at po'; exact po'
    | ex x env' => rw [e2] at po'; exact fun cv dd fs' H' G' s => po' cv dd fs' H' G'.drop (s1.trans (s.weak (fun _ z => z) fun x hx => List.mem_append_right _ hx))
    | ok as env2 =>
      rw [e2] at po'
      intro vs fs2 H2 fps ownr G2 s2 r2
      have po2 : ∀ vs fs' H' fps ownr, Good C fs' env2 σ H' (fps.flatten ++ (ownr ++ tf)) → Step (M1 ++ M2) tf fs env H fs' env2 H' → AOk C H' σ (M1 ++ M2) R2 fs' ownr (.ow d wb :: as) vs fps → Q vs H' := po'
      refine po2 (v :: vs) fs2 H2 (fp1 :: fps) ownr (G2.perm ?_) (s1.trans (s2.weak (fun _ z => z) fun x hx => List.mem_append_right _ hx)) ?_
      · rw [List.flatten_cons]
        have : (fps.flatten ++ (ownr ++ (fp1 ++ tf))).Perm (fp1 ++ (fps.flatten ++ (ownr ++ tf))) := by
          exact ((List.perm_append_comm_assoc _ _ _).append_left _).trans (List.perm_append_comm_assoc _ _ _)
        rw [List.append_assoc]; exact this.symm
      · exact ⟨v, vs, fp1, fps, rfl, rfl, r1.keep (fun x hx => s2.t x (List.mem_append_left _ hx)) s2.m, w1.mono mem_l, r2.mono mem_r (fun _ z => z) fun _ z => z⟩
theorem sr_ow (ha : SO X W M1 a ca) (hr : SR X W M2 R2 es cr) (hs : starEach (a :: es) X.env = (false, eval a X.env) :: starEach es X.env := by rfl) : SR X W (M1 ++ M2) R2 (a :: es) (aOw ca none cr) := by
  obtain ⟨t, p, q⟩ := ha.go
  obtain ⟨t2, p2, q2⟩ := hr.go
  refine ow_go hs p p2 (fun C fs env σ H tf Q hC G po => q C fs env σ H tf Q hC G ?_) q2
  cases e1 : ca env with
  | err => rw [e1] at po; exact po
  | ex x env' => rw [e1] at po; exact po
  | ok d env1 => rw [e1] at po; exact fun v fs' H' fp G' s r => po v fs' H' fp G' s r trivial
/-- a name handed in that the callee may change -/
theorem sr_io (i : Nat) {x : Str} (hr : SR X W M2 R2 es cr) (hN : X.N[i]? = some x := by rfl) (hv : Vis X.env.scope x := by first | exact Or.inl rfl | exact Or.inr (Or.inl rfl) | exact Or.inr (Or.inr rfl)) (hd : (x == ("__debug__" : Str)) = false := by decide)
    (hcd : (x == ("__classdict__" : Str)) = false := by decide) (hs : starEach (.Name x pos :: es) X.env = (false, eval (.Name x pos) X.env) :: starEach es X.env := by rfl) : SR X W ([i] ++ M2) R2 (.Name x pos :: es) (aOw (cMv i) (some i) cr) := by
  obtain ⟨t2, p2, q2⟩ := hr.go
  refine ow_go hs (pe_var hN hv hd hcd) p2 (fun C fs env σ H tf Q hC G po => ?_) q2
  cases e1 : cMv i env with
  | err => rw [e1] at po; exact po.elim
  | ex x env' => unfold cMv at e1; split at e1 <;> cases e1
  | ok d env1 =>
    rw [e1] at po
    unfold cMv at e1
    split at e1
    · rename_i d' e2
      cases e1
      obtain ⟨v, e3, r⟩ := G.rep i d e2
      refine ⟨v, e3, po v (fs.set i []) H _ (G.mv e2) ⟨fun _ _ => rfl, fun j hj => ?_, fun j hj => ?_, fun _ _ _ _ => rfl, .refl H⟩ r ⟨e3, by simp⟩⟩
      · rw [getD_set fs i j [] (G.lt e2), if_neg (by simpa using hj)]
      · rw [List.getElem?_set, if_neg (by intro z; subst z; simp at hj)]
    · cases e1

/-! ### behind a call -/
def putBack : List AV → List D → Env → Option Env
  | [], [], env => some env
  | .ro _ :: as, os, env => putBack as os env
  | .ow _ (some i) :: as, o :: os, env => putBack as os (env.set i (some o))
  | .ow _ none :: as, _ :: os, env => putBack as os env
  | _, _, _ => none
theorem put_back {Ms Rs : List Nat} {ownr : List Addr} {fsA : FPs} {HA : Hp} (hk : C'.K = C.K) (hm : C'.mg = C.mg) (hl : C'.Lk = C.Lk) : ∀ {avs : List AV} {vs : List V} {fpsA : FPs} {os : List D} {fps : FPs} {fs : FPs} {env env' : Env},
    AOk C HA σ Ms Rs fsA ownr avs vs fpsA → OutR C' H (avs.map AV.io) os vs fps → nols os = true → putBack avs os env = some env' → Good C fs env σ H (fps.flatten ++ tf) → ∃ fs', Good C fs' env' σ H tf ∧ Step Ms tf fs env H fs' env' H
  | [], vs, fpsA, os, fps, fs, env, env', _, ⟨h1, h2⟩, _, hp, G => by
    subst h1 h2
    simp [putBack] at hp; subst hp
    exact ⟨fs, by simpa using G, .refl⟩
  | .ro d :: as, vs, fpsA, os, fps, fs, env, env', ⟨v, vs', fp, fps', e1, e2, r, i, x⟩, ho, hn, hp, G => by
    subst e1
    obtain ⟨w, ws, e3, ho⟩ := ho
    cases e3
    simp only [putBack] at hp
    exact put_back hk hm hl x ho hn hp G
  | .ow d none :: as, vs, fpsA, os, fps, fs, env, env', ⟨v, vs', fp, fps', e1, e2, r, i, x⟩, ho, hn, hp, G => by
    subst e1
    obtain ⟨o, os', w, ws, f, fps2, e3, e4, e5, ro, ho⟩ := ho
    cases e4
    subst e3 e5
    simp only [putBack] at hp
    have hn := Bool.and_eq_true_iff.mp hn
    refine put_back hk hm hl x ho hn.2 hp (G.sub ?_)
    rw [List.flatten_cons, List.append_assoc]; exact List.sublist_append_right _ _
  | .ow d (some j) :: as, vs, fpsA, os, fps, fs, env, env', ⟨v, vs', fp, fps', e1, e2, r, i, x⟩, ho, hn, hp, G => by
    subst e1
    obtain ⟨o, os', w, ws, f, fps2, e3, e4, e5, ro, ho⟩ := ho
    cases e4
    subst e3 e5
    simp only [putBack] at hp
    have hn := Bool.and_eq_true_iff.mp hn
    rw [List.flatten_cons, List.append_assoc] at G
    have ro' := ro.leave hk hm hl hn.1
    have G2 := G.put (i := j) ro'
    have es : σ.set j (some v) = σ := by
      obtain ⟨h1, h2⟩ := List.getElem?_eq_some_iff.mp i.1
      conv => rhs; rw [← List.set_getElem_self (as := σ) (i := j) h1]
      rw [h2]
    rw [es] at G2
    obtain ⟨fs', G3, s3⟩ := put_back hk hm hl x ho hn.2 hp G2
    have s2 := Step.put (i := j) (d := o) G
    refine ⟨fs', G3, ((s2.weak (M' := Ms) (tf' := tf) (fun q hq => ?_) fun x hx => List.mem_append_right _ hx).trans s3).weak (fun q hq => (List.mem_append.mp hq).elim id id) fun _ z => z⟩
    simp at hq; subst hq; exact i.2
theorem good_after {A' : List Addr} (G : Good C fs env σ H1 (A' ++ tf)) (h0 : C'.H0 = H1) (hA : C'.A = A') (hl : C'.Lk = C.Lk) (f : Fr C' H2) (m : Mono H1 H2) : Good C fs env σ H2 tf ∧ (∀ a ∈ fs.flatten ++ tf, H2 a = H1 a) := by
  have keep : ∀ a ∈ fs.flatten ++ tf, H2 a = H1 a := fun a ha => by
    have ha' : a ∈ fs.flatten ++ (A' ++ tf) := by
      rcases List.mem_append.mp ha with z | z
      · exact List.mem_append_left _ z
      · exact List.mem_append_right _ (List.mem_append_right _ z)
    obtain ⟨o, e, mu⟩ := G.trk a ha'
    have nA : a ∉ A' := fun hm => by
      have p : (fs.flatten ++ (A' ++ tf)).Perm (A' ++ (fs.flatten ++ tf)) := by
        rw [← List.append_assoc, ← List.append_assoc]; exact List.perm_append_comm.append_right _
      exact (List.nodup_append.mp (p.nodup_iff.mp G.nd)).2.2 a hm a ha rfl
    rcases f a o (by rw [h0]; exact e) (by rw [hA]; exact nA) with q | ⟨q1, _, ob, q⟩
    · rw [q, e]
    · obtain ⟨ob2, u, z⟩ := G.lk a (by rw [← hl]; exact q1)
      rw [e] at z; cases z; exact mu.elim
  refine ⟨⟨G.le, G.lf, fun i d e => ?_, ?_, fun a ha => G.own a ?_, fun a ha => ?_, fun a o e na => ?_, fun a ha => ?_⟩, keep⟩
  · obtain ⟨v, e1, r⟩ := G.rep i d e
    exact ⟨v, e1, r.keep (fun a ha => keep a (List.mem_append_left _ (mem_flat ha))) m⟩
  · exact G.nd.sublist ((List.Sublist.refl _).append (List.sublist_append_right _ _))
  · rcases List.mem_append.mp ha with z | z
    · exact List.mem_append_left _ z
    · exact List.mem_append_right _ (List.mem_append_right _ z)
  · rw [keep a ha]
    refine G.trk a ?_
    rcases List.mem_append.mp ha with z | z
    · exact List.mem_append_left _ z
    · exact List.mem_append_right _ (List.mem_append_right _ z)
  · have nA : a ∉ A' := fun hm => by
      rcases G.own a (List.mem_append_right _ (List.mem_append_left _ hm)) with q | q
      · exact na q
      · rw [e] at q; cases q
    rcases G.fr a o e na with q | ⟨q1, q2, ob, q⟩
    · rcases f a o (by rw [h0]; exact q) (by rw [hA]; exact nA) with z | ⟨z1, z2, z3⟩
      · exact .inl z
      · exact .inr ⟨by rw [← hl]; exact z1, z2, z3⟩
    · exact .inr ⟨q1, q2, ob, m.z _ _ _ q⟩
  · obtain ⟨ob, u, e⟩ := G.lk a ha
    exact ⟨ob, u, m.z _ _ _ e⟩
/-- new nodes, and those handed back, come to what is held -/
theorem good_come {A' fpn : List Addr} (G1 : Good C fs env σ H1 (A' ++ tf)) (G : Good C fs env σ H2 tf) (nd : fpn.Nodup) (hw : ∀ a ∈ fpn, a ∈ A' ∨ H1 a = none) (tk : ∀ a ∈ fpn, ∃ o, H2 a = some o ∧ Mutb o) : Good C fs env σ H2 (fpn ++ tf) := by
  have p : (fs.flatten ++ (fpn ++ tf)).Perm (fpn ++ (fs.flatten ++ tf)) := by
    rw [← List.append_assoc, ← List.append_assoc]; exact List.perm_append_comm.append_right _
  have p1 : (fs.flatten ++ (A' ++ tf)).Perm (A' ++ (fs.flatten ++ tf)) := by
    rw [← List.append_assoc, ← List.append_assoc]; exact List.perm_append_comm.append_right _
  refine ⟨G.le, G.lf, G.rep, p.nodup_iff.mpr (List.nodup_append.mpr ⟨nd, G.nd, fun a ha b hb e => ?_⟩), fun a ha => ?_, fun a ha => ?_, G.fr, G.lk⟩
  · subst e
    rcases hw a ha with z | z
    · exact (List.nodup_append.mp (p1.nodup_iff.mp G1.nd)).2.2 a z a hb rfl
    · have hb' : a ∈ fs.flatten ++ (A' ++ tf) := p1.mem_iff.mpr (List.mem_append_right _ hb)
      obtain ⟨o, q, _⟩ := G1.trk a hb'
      rw [z] at q; cases q
  · rcases List.mem_append.mp (p.mem_iff.mp ha) with z | z
    · rcases hw a z with w | w
      · exact G1.own a (p1.mem_iff.mpr (List.mem_append_left _ w))
      · exact G1.fr.fresh w
    · exact G.own a z
  · rcases List.mem_append.mp (p.mem_iff.mp ha) with z | z
    · exact tk a z
    · exact G.trk a z
theorem AOk.len {Ms Rs ownr} : ∀ {avs vs fps}, AOk C H σ Ms Rs fs ownr avs vs fps → vs.length = (avs.map AV.io).length
  | [], vs, fps, ⟨h, _⟩ => by subst h; rfl
  | .ro d :: as, vs, fps, ⟨v, vs', fp, fps', e1, e2, r, i, x⟩ => by subst e1; simp [AOk.len x]
  | .ow d wb :: as, vs, fps, ⟨v, vs', fp, fps', e1, e2, r, i, x⟩ => by subst e1; simp [AOk.len x]
theorem AOk.argR {Ms Rs ownr} (E : Enter C C' H) (hd : ∀ b, (b ∈ ownr ∨ ∃ r ∈ Rs, b ∈ fs.getD r []) → b ∉ C'.A) : ∀ {avs vs fps}, AOk C H σ Ms Rs fs ownr avs vs fps → ArgR C' H (avs.map AV.io) (avs.map AV.d) vs fps
  | [], vs, fps, ⟨h1, h2⟩ => ⟨rfl, h1, h2⟩
  | .ro d :: as, vs, fps, ⟨v, vs', fp, fps', e1, e2, r, i, x⟩ => ⟨d.lend, _, v, vs', [], fps', rfl, e1, e2, r.lend E (fun b hb => hd b (i b hb)), .inr rfl, AOk.argR E hd x⟩
  | .ow d wb :: as, vs, fps, ⟨v, vs', fp, fps', e1, e2, r, i, x⟩ => ⟨d, _, v, vs', fp, fps', rfl, e1, e2, r.enter E, .inl rfl, AOk.argR E hd x⟩
theorem OutR.trk : ∀ {io os vs fps}, OutR C H io os vs fps → ∀ a ∈ fps.flatten, ∃ o, H a = some o ∧ Mutb o
  | [], os, vs, fps, ⟨_, h⟩ => by subst h; intro a ha; simp at ha
  | true :: bs, os, vs, fps, ⟨o, os', v, vs', fp, fps', e1, e2, e3, r, x⟩ => by
    subst e3
    intro a ha
    rw [List.flatten_cons] at ha
    exact (List.mem_append.mp ha).elim (r.trk a) (OutR.trk x a)
  | false :: bs, os, vs, fps, ⟨v, vs', e, x⟩ => OutR.trk x
def callEnd (avs : List AV) (env : Env) : FR → R D
  | .ok r os => if r.nol && nols os then (match putBack avs os env with
    | some env' => .ok r env'
    | none => .err) else .err
  | .ex x os => if nols os then (match putBack avs os env with
    | some env' => .ex x env'
    | none => .err) else .err
  | .err => .err
def cCall (φ : List D → FR) (cr : Env → R (List AV)) : CE := fun env => (cr env).bind fun avs env => callEnd avs env (φ (avs.map AV.d))
theorem ExIs.leave {x : Exn} {cv dd} (hk : C'.K = C.K) (hm : C'.mg = C.mg) (hl : C'.Lk = C.Lk) (h : ExIs C' x cv dd H) : ExIs C x cv dd H := by
  obtain ⟨Ca, h1, h2, h3⟩ := h
  refine ⟨Ca, by rw [← hm]; exact h1, h2, ?_⟩
  cases q : x.pay with
  | none => rw [q] at h3; exact h3
  | some fd =>
    rw [q] at h3
    obtain ⟨da, v, e1, e2, e3, r⟩ := h3
    exact ⟨da, v, e1, e2, e3, r.leave hk hm hl e3⟩
/-- the call's reading from the callee's promise -/
theorem call_go {io : List Bool} {φ : List D → FR} {t : TA} {E : L2.St → XK}
    (hE : ∀ σ cls d H, W cls d σ H → E σ cls d H) (hio : ∀ env avs env', cr env = .ok avs env' → avs.map AV.io = io)
    (q : ∀ C fs env σ H tf Q, C.At X → Good C fs env σ H tf → PostR W C M Rs tf fs env σ H Q (cr env) → t σ H Q) (hd : djB Rs [] = true) :
    ∀ C fs env σ H tf Q, C.At X → Good C fs env σ H tf → PostO W C M tf fs env σ H Q (cCall φ cr env) → t σ H fun vs H1 => spF X.K X.mg io φ vs H1 Q (E σ) := by
  intro C fs env σ H tf Q hC G po
  refine q C fs env σ H tf _ hC G ?_
  unfold cCall at po
  cases e1 : cr env with
  | err => rw [e1] at po; exact po
  | ex x env' => rw [e1] at po; exact po
  | ok avs env1 =>
    rw [e1] at po
    intro vs fs1 H1 fps ownr G1 s1 ao
    have hio' := hio env avs env1 e1
    have po1 : PostO W C M tf fs env σ H Q (callEnd avs env1 (φ (avs.map AV.d))) := po
    let C' : Ctx := ⟨X.K, X.mg, H1, fps.flatten, C.Lk⟩
    have hk : C'.K = C.K := hC.1.symm
    have hm : C'.mg = C.mg := hC.2.symm
    have E1 : Enter C C' H1 := ⟨hk, hm, rfl, rfl, G1.fr, fun x hx => ⟨G1.own x (List.mem_append_right _ (List.mem_append_left _ hx)), G1.trk x (List.mem_append_right _ (List.mem_append_left _ hx))⟩⟩
    have dis : ∀ b, (b ∈ ownr ∨ ∃ r ∈ Rs, b ∈ fs1.getD r []) → b ∉ C'.A := fun b hb hm' => by
      have nd := (List.nodup_append.mp G1.nd).2.1
      rcases hb with z | ⟨r, _, z⟩
      · exact (List.nodup_append.mp nd).2.2 b hm' b (List.mem_append_left _ z) rfl
      · exact G1.apartT z (List.mem_append_left _ hm')
    have ar := ao.argR E1 dis
    rw [hio'] at ar
    refine ⟨C.Lk, avs.map AV.d, fps, by rw [ao.len, hio'], ar, (List.nodup_append.mp (List.nodup_append.mp G1.nd).2.1).1, G1.lk, ?_⟩
    have fin : ∀ {H2 : Hp} {os : List D} {fpr : List Addr} {fpso : FPs} {env2 : Env}, Fr C' H2 → Mono H1 H2 → OutR C' H2 io os vs fpso → nols os = true → putBack avs os env1 = some env2 → (fpr ++ fpso.flatten).Nodup → (∀ a ∈ fpr ++ fpso.flatten, a ∈ C'.A ∨ H1 a = none) →
        (∀ a ∈ fpr, ∃ o, H2 a = some o ∧ Mutb o) → ∃ fs2, Good C fs2 env2 σ H2 (fpr ++ tf) ∧ Step M tf fs env H fs2 env2 H2 := by
      intro H2 os fpr fpso env2 f m orr hn hp nd hw tk
      obtain ⟨G2, keep⟩ := good_after (C' := C') G1 rfl rfl rfl f m
      have G2' : Good C fs1 env1 σ H2 tf := G2.drop
      have G3 : Good C fs1 env1 σ H2 ((fpr ++ fpso.flatten) ++ (ownr ++ tf)) := good_come (A' := fps.flatten) G1 G2 nd hw fun a ha => (List.mem_append.mp ha).elim (tk a) (orr.trk a)
      have G4 : Good C fs1 env1 σ H2 (fpso.flatten ++ (fpr ++ tf)) := by
        refine (G3.sub (tf' := (fpr ++ fpso.flatten) ++ tf) ((List.Sublist.refl _).append (List.sublist_append_right _ _))).perm ?_
        rw [← List.append_assoc]; exact List.perm_append_comm.append_right _
      rw [← hio'] at orr
      obtain ⟨fs2, G5, s5⟩ := put_back (C' := C') hk hm rfl ao orr hn hp G4
      refine ⟨fs2, G5, ?_⟩
      have s12 : Step M tf fs1 env1 H1 fs1 env1 H2 := ⟨fun a ha => keep a (List.mem_append_right _ (List.mem_append_right _ ha)), fun _ _ => rfl, fun _ _ => rfl, fun i _ a ha => keep a (List.mem_append_left _ (mem_flat ha)), m⟩
      exact ((s1.trans s12).trans (s5.weak (fun _ z => z) fun x hx => List.mem_append_right _ hx)).weak (fun i hi => by
        rcases List.mem_append.mp hi with z | z
        · exact (List.mem_append.mp z).elim id id
        · exact z) fun _ z => z
    cases e2 : φ (avs.map AV.d) with
    | err => rw [e2] at po1; exact po1.elim
    | ok r os =>
      rw [e2] at po1
      simp only [callEnd] at po1
      split at po1
      · rename_i hn
        have hn := Bool.and_eq_true_iff.mp hn
        cases e3 : putBack avs os env1 with
        | none => rw [e3] at po1; exact po1.elim
        | some env2 =>
          rw [e3] at po1
          intro v H2 fpr fpso f m rr orr nd hw
          obtain ⟨fs2, G2, s2⟩ := fin f m orr hn.2 e3 nd hw rr.trk
          exact po1 v fs2 H2 fpr G2 s2 (rr.leave hk hm rfl hn.1)
      · exact po1.elim
    | ex x os =>
      rw [e2] at po1
      simp only [callEnd] at po1
      split at po1
      · rename_i hn
        cases e3 : putBack avs os env1 with
        | none => rw [e3] at po1; exact po1.elim
        | some env2 =>
          rw [e3] at po1
          intro cv dd H2 fpso f m hx orr nd hw
          obtain ⟨fs2, G2, s2⟩ := fin (fpr := []) f m orr hn e3 (by rw [List.nil_append]; exact nd) (by rw [List.nil_append]; exact hw) fun _ z => nomatch z
          exact hE σ cv dd H2 (po1 cv dd fs2 H2 (by simpa using G2) s2 (hx.leave hk hm rfl))
      · exact po1.elim
end
end VS

set_option maxRecDepth 100000
namespace VS
open PySem L2 SeqAt
/-- arguments with their kinds -/
structure SRI (X : Cx) (W : WX) (M Rs : List Nat) (io : List Bool) (es : List Expr) (c : Env → R (List AV)) : Prop where
  sr : SR X W M Rs es c
  shape : ∀ env avs env', c env = .ok avs env' → avs.map AV.io = io
theorem R.bind_ok {α β : Type} {r : R α} {f : α → Env → R β} {b : β} {env : Env} (h : r.bind f = .ok b env) : ∃ a env1, r = .ok a env1 ∧ f a env1 = .ok b env := by
  cases r with
  | ok a e => exact ⟨a, e, rfl, h⟩
  | ex x e => cases h
  | err => cases h
section
variable {X : Cx} {W : WX} {M M1 M2 M3 V1 V2 V3 Rs R1 R2 R3 : List Nat} {e a b c tg : Expr} {es : List Expr} {ca cb cc : CE} {pos p : Pos} {cr : Env → R (List AV)} {io : List Bool}
theorem sri_nil : SRI X W [] [] [] [] aNil := ⟨sr_nil, fun env avs env' h => by cases h; rfl⟩
theorem sri_ro (ha : SB X W M1 R1 a ca) (hr : SRI X W M2 R2 io es cr) (hd : djB R1 M2 = true := by decide) (hs : starEach (a :: es) X.env = (false, eval a X.env) :: starEach es X.env := by rfl) : SRI X W (M1 ++ M2) (R1 ++ R2) (false :: io) (a :: es) (aRo ca cr) :=
  ⟨sr_ro ha hr.sr hd hs, fun env avs env' h => by
    obtain ⟨d, e1, h1, h2⟩ := R.bind_ok h
    obtain ⟨as, e2, h3, h4⟩ := R.bind_ok h2
    cases h4
    simp [AV.io, hr.shape _ _ _ h3]⟩
theorem ow_shape {wb} (hr : SRI X W M2 R2 io es cr) : ∀ env avs env', aOw ca wb cr env = .ok avs env' → avs.map AV.io = true :: io := fun env avs env' h => by
  obtain ⟨d, e1, h1, h2⟩ := R.bind_ok h
  obtain ⟨as, e2, h3, h4⟩ := R.bind_ok h2
  cases h4
  simp [AV.io, hr.shape _ _ _ h3]
theorem sri_ow (ha : SO X W M1 a ca) (hr : SRI X W M2 R2 io es cr) (hs : starEach (a :: es) X.env = (false, eval a X.env) :: starEach es X.env := by rfl) : SRI X W (M1 ++ M2) R2 (true :: io) (a :: es) (aOw ca none cr) :=
  ⟨sr_ow ha hr.sr hs, ow_shape hr⟩
theorem sri_io (i : Nat) {x : Str} (hr : SRI X W M2 R2 io es cr) (hN : X.N[i]? = some x := by rfl) (hv : Vis X.env.scope x := by first | exact Or.inl rfl | exact Or.inr (Or.inl rfl) | exact Or.inr (Or.inr rfl)) (hd : (x == ("__debug__" : Str)) = false := by decide)
    (hcd : (x == ("__classdict__" : Str)) = false := by decide) (hs : starEach (.Name x pos :: es) X.env = (false, eval (.Name x pos) X.env) :: starEach es X.env := by rfl) : SRI X W ([i] ++ M2) R2 (true :: io) (.Name x pos :: es) (aOw (cMv i) (some i) cr) :=
  ⟨sr_io i hr.sr hN hv hd hcd hs, ow_shape hr⟩
/-- a def of the module that comes to φ -/
def Fd (P : Program) (w : World) (K : PySem.W.Frag) (mg : Str → Option Value) (base : Heap) (k : Nat) (x : Str) (ps : List Str) (io : List Bool) (φ : List D → FR) : Prop :=
  ∃ (f : Addr) (fd : FuncData), FnOk P w K mg base (L2.CX P w) k f fd ps (spF K mg io φ) ∧ mg x = some (.ref f) ∧ PySem.W.keepIn K (.ref f) = true ∧ Binds K fd ps []
theorem so_call {k : Nat} {x : Str} {ps : List Str} {φ : List D → FR} {pf : Pos} (F : Fd X.prog X.w X.K X.mg X.base k x ps io φ) (hr : Room k X.A) (tk : Takes X W) (ha : SRI X W M Rs io (e :: es) cr) (hg : Gl X x := by rfl)
    (hdb : (x == ("__debug__" : Str)) = false := by decide) (he : starEach (e :: es) X.env = (false, eval e X.env) :: starEach es X.env := by rfl) (hpl : (backTo pos (starEach es X.env)).any (·.1) = false := by rfl) :
    SO X W M (.Call (.Name x pf) (e :: es) [] pos) (cCall φ cr) := by
  obtain ⟨f, fd, G, hm, hk, hb⟩ := F
  obtain ⟨t, p, q⟩ := ha.sr.go
  refine ⟨tCallS (spF X.K X.mg io φ) (WE W) t, pe_callS G hr hg hm hk hb (fun σ => passAt tk σ) p hdb he hpl, ?_⟩
  exact call_go (E := WE W) (fun _ _ _ _ h => h) ha.shape q (by unfold djB; simp)
end

/-! ### the law's end -/
def spLaw (K : PySem.W.Frag) : Sp := fun vs H Q _ => ∃ (a : Addr) (ns : List Int), vs = [.ref a] ∧ SqL K H a (ns.map V.int) ∧ ns.length ≤ 63 ∧ (∀ z ∈ ns, Builtin.Int.intBits z ≤ 1048576) ∧ ∀ H', Q (.bl true) H'
theorem reps_ints {C : Ctx} {H : Hp} : ∀ ns : List Int, Reps C H (ns.map D.int) (ns.map V.int) []
  | [] => ⟨rfl, rfl⟩
  | n :: ns => ⟨.int n, ns.map V.int, [], [], rfl, ⟨rfl, rfl⟩, reps_ints ns, rfl⟩
theorem law_imp {P : Program} {w : World} {K : PySem.W.Frag} {mg : Str → Option Value} {base : Heap} {k : Nat} {f : Addr} {fd : FuncData} {x : Str} {φ : List D → FR} (F : FnOk P w K mg base (L2.CX P w) k f fd [x] (spF K mg [false] φ))
    (h : ∀ ns : List Int, ns.length ≤ 63 → (∀ z ∈ ns, Builtin.Int.intBits z ≤ 1048576) → φ [.lst .l (ns.map D.int)] = .ok (.bl true) []) : FnOk P w K mg base (L2.CX P w) k f fd [x] (spLaw K) := by
  refine F.imp fun vs H Q E ⟨a, ns, e, sq, h1, h2, q⟩ => ?_
  subst e
  refine ⟨[], [.lst .l (ns.map D.int)], [[]], rfl, ?_, by simp, (fun _ z => nomatch z), ?_⟩
  · refine ⟨_, [], _, [], [], [], rfl, rfl, rfl, ⟨a, ns.map V.int, [], [], rfl, ⟨?_, rfl⟩, reps_ints ns, .inr rfl, rfl⟩, .inr rfl, ⟨rfl, rfl, rfl⟩⟩
    rcases sq with z | z
    · exact .inl ⟨z, by simp⟩
    · exact .inr ⟨_, rfl, z⟩
  · rw [h ns h1 h2]
    intro v H' fp fps _ _ r _ _ _
    obtain ⟨rfl, _⟩ := r
    exact q H'
/-- the facts of a def that the top has left -/
theorem def_in {K : PySem.W.Frag} {h : Heap} {mg : Str → Option Value} {x : Str} {st : Stmt} {f : Addr} {oc : Value} {od an : Option Addr} {osl : Array (Option Value)} {kV doc pm cdv ct : Value} (X : K.In h) (G : h.Ns mainGlobals mg)
    (a : PySem.W.nsIn K mainGlobals x = some (some (.ref f))) (l : K.lookup f = some ⟨oc, od, .func (PySem.W.fnOf x x (defArgs st) (defBody st) (defScope st) .none kV doc pm an cdv ct), osl⟩)
    (c : PySem.W.codeIn K cdv x = true) (k : PySem.W.keepIn K (.ref f) = true) : ∃ fd, Fun K x x st f fd ∧ mg x = some (.ref f) ∧ fd = PySem.W.fnOf x x (defArgs st) (defBody st) (defScope st) .none kV doc pm an cdv ct :=
  ⟨_, fun_mk l c k, PySem.W.mg_of X G a, rfl⟩
theorem fd_mk {P : Program} {w : World} {K : PySem.W.Frag} {mg : Str → Option Value} {base : Heap} {k : Nat} {x : Str} {st : Stmt} {f : Addr} {fd : FuncData} {ps : List Str} {io : List Bool} {φ : List D → FR} (F : Fun K x x st f fd) (hm : mg x = some (.ref f)) (hb : Binds K fd ps [])
    (h : FnOk P w K mg base (L2.CX P w) k f fd ps (spF K mg io φ)) : Fd P w K mg base k x ps io φ := ⟨f, fd, h, hm, F.kp, hb⟩
theorem Fd.mono {P : Program} {w : World} {K : PySem.W.Frag} {mg : Str → Option Value} {base : Heap} {j k : Nat} {x : Str} {ps : List Str} {io : List Bool} {φ : List D → FR} (F : Fd P w K mg base j x ps io φ) (h : j ≤ k) : Fd P w K mg base k x ps io φ :=
  let ⟨f, fd, G, a, b, c⟩ := F
  ⟨f, fd, G.mono h, a, b, c⟩
theorem walkL {l : PySem.W.OpenLaw} {k : Nat} {q : Program} {loose : List Str} {XP : (Str → Option Value) → Heap → Prop} {YP : World → Heap → Prop} {d : DefRec} {K : Params → PySem.W.Frag} {x : Str}
    (hn : l.most = some 63) (hdf : d.params.defaults = []) (hr : Room k callerA)
    (hY : ∀ (w : World) (h : Heap), YP w h → (K w.params).In h)
    (F : ∀ (w : World) (mg : Str → Option Value) (fa : Addr) (h : Heap), (K w.params).In h → h.Ns mainGlobals mg → mg d.name = some (.ref fa) →
      ∃ fd : FuncData, (∀ (s : Shared) (u : Value), BindsTo s fd ⟨[u], []⟩ [(x, u)]) ∧ ∀ base : Heap, (K w.params).In base → base.Ns mainGlobals mg → FnOk l.prog w (K w.params) mg base (L2.CX l.prog w) k fa fd [x] (spLaw (K w.params))) :
    PySem.W.WalkO q loose XP YP l.row.toRowW d [] (fun f vs => PySem.call f vs) :=
  walk_ofB (n := 63) (k := k) (x := x) (CX := fun w => L2.CX l.prog w) (sp := fun w => spLaw (K w.params)) hn (by decide) hdf hr hY F (fun _ _ a ns hl hb _ hS => ⟨a, ns, rfl, hS, hl, hb, fun _ => rfl⟩) fun _ _ _ _ _ z => by
    obtain ⟨_, _, _, _, _, _, _, _, _, _, _, _, h⟩ := z
    exact h
end VS

set_option maxRecDepth 100000
namespace VS
open PySem L2 SeqAt

/-- the tree d' (value v', nodes fp') within d (value v, nodes g1 ++ fp' ++ g2); F puts another one in its place -/
structure Foc (C : Ctx) (H : Hp) (d : D) (v : V) (g1 : List Addr) (d' : D) (v' : V) (fp' g2 : List Addr) (F : D → D) : Prop where
  here : Rep C H d' v' fp'
  back : ∀ H' d'' fp'', Mono H H' → (∀ a ∈ g1 ++ g2, H' a = H a) → Rep C H' d'' v' fp'' → Rep C H' (F d'') v (g1 ++ fp'' ++ g2)
def PostL (W : WX) (C : Ctx) (i : Nat) (M : List Nat) (tf : List Addr) (fs : FPs) (env : Env) (σ : St) (H : Hp) (Q : VK) : R (D × (D → D)) → Prop
  | .ok dF env' => ∀ v' fs' H' d v g1 fp' g2, Good C fs' env' σ H' tf → Step M tf fs env H fs' env' H' → env'[i]? = some (some d) → σ[i]? = some (some v) → fs'.getD i [] = g1 ++ fp' ++ g2 → Foc C H' d v g1 dF.1 v' fp' g2 dF.2 → Q v' H'
  | .ex x env' => ∀ cv dd fs' H', Good C fs' env' σ H' tf → Step M tf fs env H fs' env' H' → ExIs C x cv dd H' → W cv dd σ H'
  | .err => False
abbrev CL := Env → R (D × (D → D))
/-- a place within slot i -/
structure SL (X : Cx) (W : WX) (i : Nat) (M : List Nat) (e : Expr) (c : CL) : Prop where
  go : ∃ t, PE X e t ∧ ∀ C fs env σ H tf Q, C.At X → Good C fs env σ H tf → PostL W C i M tf fs env σ H Q (c env) → t σ H Q

section
variable {X : Cx} {W : WX} {M M1 M2 M3 V1 V2 V3 Rs R1 R2 R3 : List Nat} {e a b c tg o : Expr} {es : List Expr} {ca cb cc : CE} {cs : CA} {pos p : Pos} {cl : CL} {i : Nat}
variable {pins : List (Addr × Obj)} {σ : St} {H H1 H2 H' : Hp} {s : Shared} {C C' : Ctx} {fs fs1 fs2 : FPs} {env env1 env2 : Env} {tf tf' own : List Addr}

theorem foc_self {d v fp} (r : Rep C H d v fp) : Foc C H d v [] d v fp [] id := ⟨r, fun H' d'' fp'' _ _ r' => by simpa using r'⟩
theorem Foc.keep {d v g1 d' v' fp' g2 F} (f : Foc C H d v g1 d' v' fp' g2 F) (m : Mono H H') (k : ∀ a ∈ g1 ++ fp' ++ g2, H' a = H a) : Foc C H' d v g1 d' v' fp' g2 F :=
  ⟨f.here.keep (fun a ha => k a (by simp [ha])) m, fun H2 d'' fp'' m2 k2 r => f.back H2 d'' fp'' (m.trans m2) (fun a ha => (k2 a ha).trans (k a (by
    rcases List.mem_append.mp ha with z | z <;> simp [z]))) r⟩
theorem Foc.comp {d v g1 d1 v1 fp1 g2 F h1 d2 v2 fp2 h2 G} (f : Foc C H d v g1 d1 v1 fp1 g2 F) (g : Foc C H d1 v1 h1 d2 v2 fp2 h2 G) (e : fp1 = h1 ++ fp2 ++ h2) : Foc C H d v (g1 ++ h1) d2 v2 fp2 (h2 ++ g2) (F ∘ G) := by
  refine ⟨g.here, fun H' d'' fp'' m k r => ?_⟩
  have r1 := g.back H' d'' fp'' m (fun a ha => k a (by rcases List.mem_append.mp ha with z | z <;> simp [z])) r
  have r2 := f.back H' (G d'') _ m (fun a ha => k a (by rcases List.mem_append.mp ha with z | z <;> simp [z])) r1
  simpa [List.append_assoc] using r2
theorem reps_set : ∀ {ds : List D} {vs : List V} {fp : List Addr} {j : Nat} {x : D}, Reps C H ds vs fp → ds[j]? = some x → ∃ w g1 f g2, vs[j]? = some w ∧ Rep C H x w f ∧ fp = g1 ++ f ++ g2 ∧
    ∀ H' y w' f', Mono H H' → (∀ a ∈ g1 ++ g2, H' a = H a) → Rep C H' y w' f' → Reps C H' (ds.set j y) (vs.set j w') (g1 ++ f' ++ g2)
  | [], vs, fp, j, x, _, h => by simp at h
  | d :: ds, vs, fp, 0, x, ⟨v, vs', f1, f2, e, r, rs, e2⟩, h => by
    simp at h; subst h; subst e
    refine ⟨v, [], f1, f2, by simp, r, by simpa using e2, fun H' y w' f' m k r' => ?_⟩
    exact ⟨w', vs', f', f2, rfl, r', rs.keep (fun a ha => k a (by simp [ha])) m, by simp⟩
  | d :: ds, vs, fp, j + 1, x, ⟨v, vs', f1, f2, e, r, rs, e2⟩, h => by
    subst e
    obtain ⟨w, g1, f, g2, h1, h2, h3, h4⟩ := reps_set (j := j) rs (by simpa using h)
    refine ⟨w, f1 ++ g1, f, g2, by simpa using h1, h2, by rw [e2, h3]; simp [List.append_assoc], fun H' y w' f' m k r' => ?_⟩
    exact ⟨v, _, f1, g1 ++ f' ++ g2, rfl, r.keep (fun a ha => k a (by simp [ha])) m, h4 H' y w' f' m (fun a ha => k a (by rcases List.mem_append.mp ha with z | z <;> simp [z])) r', by simp [List.append_assoc]⟩
def idxK : List Key → Key → Option Nat
  | [], _ => none
  | k0 :: ks, k => if k0 = k then some 0 else (idxK ks k).map (· + 1)
theorem idx_val : ∀ {kvs : List (Key × V)} {k : Key} {j : Nat}, idxK (kvs.map (·.1)) k = some j → valV kvs k = (kvs[j]?).map (·.2) ∧ j < kvs.length
  | [], k, j, h => by simp [idxK] at h
  | kv :: kvs, k, j, h => by
    simp only [List.map_cons, idxK] at h
    by_cases e : kv.1 = k
    · rw [if_pos e] at h; cases h
      exact ⟨by rw [valV_pos e]; simp, by simp⟩
    · rw [if_neg e] at h
      obtain ⟨j', h', rfl⟩ := Option.map_eq_some_iff.mp h
      obtain ⟨h1, h2⟩ := idx_val h'
      exact ⟨by rw [valV_neg e, h1]; simp, by simp; omega⟩
theorem idx_none : ∀ {kvs : List (Key × V)} {k : Key}, idxK (kvs.map (·.1)) k = none → valV kvs k = none
  | [], k, h => rfl
  | kv :: kvs, k, h => by
    simp only [List.map_cons, idxK] at h
    by_cases e : kv.1 = k
    · rw [if_pos e] at h; cases h
    · rw [if_neg e] at h
      rw [valV_neg e]
      exact idx_none (by simpa using h)
theorem idx_nodup : ∀ {kvs : List (Key × V)} {k : Key} {j : Nat} {v : V}, (kvs.map (·.1)).Nodup → idxK (kvs.map (·.1)) k = some j → putK kvs k v = kvs.set j (k, v)
  | [], k, j, v, _, h => by simp [idxK] at h
  | kv :: kvs, k, j, v, nd, h => by
    have h0 := h
    simp only [List.map_cons, idxK] at h
    simp only [List.map_cons, List.nodup_cons] at nd
    by_cases e : kv.1 = k
    · rw [if_pos e] at h; cases h
      unfold putK
      have : ((kv :: kvs).any fun kv => decide (kv.1 = k)) = true := by simp [e]
      rw [if_pos this]
      simp only [List.map_cons, List.set_cons_zero]
      rw [if_pos e, e]
      congr 1
      have key : ∀ x ∈ kvs, (if x.1 = k then (x.1, v) else x) = x := fun x hx => by
        have : ¬ x.1 = k := fun z => nd.1 (List.mem_map.mpr ⟨x, hx, z.trans e.symm⟩)
        rw [if_neg this]
      rw [List.map_congr_left key]; simp
    · rw [if_neg e] at h
      obtain ⟨j', h', rfl⟩ := Option.map_eq_some_iff.mp h
      have ih := idx_nodup (v := v) nd.2 h'
      have hv := idx_val h'
      unfold putK at ih ⊢
      have a1 : (kvs.any fun kv => decide (kv.1 = k)) = true := by
        rw [valV_any, hv.1, List.getElem?_eq_getElem hv.2]; rfl
      have a2 : ((kv :: kvs).any fun kv => decide (kv.1 = k)) = true := by simp [a1]
      rw [if_pos a1] at ih
      rw [if_pos a2]
      simp only [List.map_cons, List.set_cons_succ]
      rw [if_neg e, ih]

/-! ### places -/
def lVar (i : Nat) : CL := fun env => match env[i]? with
  | some (some d) => .ok (d, id) env
  | _ => .err
theorem sl_var (i : Nat) {x : Str} (hN : X.N[i]? = some x := by rfl) (hv : Vis X.env.scope x := by first | exact Or.inl rfl | exact Or.inr (Or.inl rfl) | exact Or.inr (Or.inr rfl)) (hd : (x == ("__debug__" : Str)) = false := by decide)
    (hcd : (x == ("__classdict__" : Str)) = false := by decide) : SL X W i [] (.Name x pos) (lVar i) := by
  refine ⟨tVar i, pe_var hN hv hd hcd, fun C fs env σ H tf Q hC G po => ?_⟩
  unfold lVar at po
  split at po
  · rename_i d e1
    obtain ⟨v, e2, r⟩ := G.rep i d e1
    exact ⟨v, e2, po v fs H d v [] (fs.getD i []) [] G .refl e1 e2 (by simp) (foc_self r)⟩
  · exact po.elim
/-- the j-th child of a node of ours -/
def kidD : D → D → Option (D × (D → D))
  | .lst .m ds, .int k => (ixN ds.length k).bind fun j => (ds[j]?).map fun x => (x, fun y => .lst .m (ds.set j y))
  | .dct .m ks ds, k => k.key.bind fun k => (idxK ks k).bind fun j => (ds[j]?).map fun x => (x, fun y => .dct .m ks (ds.set j y))
  | _, _ => none
def lIdx (cl : CL) (cb : CE) : CL := fun env => (cl env).bind fun dF env => (cb env).bind fun y env => match kidD dF.1 y with
  | some (x, G) => .ok (x, dF.2 ∘ G) env
  | none => .err
theorem foc_kid {d y x : D} {G : D → D} {v w : V} {fp fw} (hC : C.At X) (hF : Fr C H) (r : Rep C H d v fp) (ry : Rep C H y w fw) (h : kidD d y = some (x, G)) :
    ∃ v' g1 fp' g2, fp = g1 ++ fp' ++ g2 ∧ Foc C H d v g1 x v' fp' g2 G ∧ ∀ Q : VK, Q v' H → (rIx X.K v w H Q ∨ rIxD v w H Q) := by
  unfold kidD at h
  split at h
  · rename_i ds k
    obtain ⟨j, hj, h⟩ := Option.bind_eq_some_iff.mp h
    obtain ⟨x', hx, h⟩ := Option.map_eq_some_iff.mp h
    cases h
    have r0 := r
    obtain ⟨a, vs, f1, f2, rfl, ⟨hH, rfl⟩, rs, _, rfl⟩ := r
    obtain ⟨rfl, _⟩ := ry
    obtain ⟨w', g1, f, g2, h1, h2, h3, h4⟩ := reps_set rs hx
    refine ⟨w', a :: g1, f, g2, by rw [h3]; simp, ⟨h2, fun H' y f' m k' r' => ?_⟩, fun Q q => .inl (.inl ⟨a, vs, k, w', rfl, rfl, SqL.of hH, ?_, q⟩)⟩
    · have hs := h4 H' y w' f' m (fun b hb => k' b (by simp at hb ⊢; rcases hb with z | z <;> simp [z])) r'
      have e : vs.set j w' = vs := by
        obtain ⟨q1, q2⟩ := List.getElem?_eq_some_iff.mp h1
        conv => rhs; rw [← List.set_getElem_self (as := vs) (i := j) q1]
        rw [q2]
      rw [e] at hs
      exact ⟨a, vs, [a], _, rfl, ⟨by rw [k' a (by simp)]; exact hH, rfl⟩, hs, .inl rfl, by simp⟩
    · unfold atI
      rw [← reps_length rs, hj]; exact h1
  · rename_i ks ds _
    obtain ⟨ky, hk, h⟩ := Option.bind_eq_some_iff.mp h
    obtain ⟨j, hj, h⟩ := Option.bind_eq_some_iff.mp h
    obtain ⟨x', hx, h⟩ := Option.map_eq_some_iff.mp h
    cases h
    obtain ⟨a, kvs, f1, f2, rfl, ⟨hH, rfl⟩, hks, rs, _, rfl⟩ := r
    obtain ⟨w', g1, f, g2, h1, h2, h3, h4⟩ := reps_set rs hx
    have ey := key_of hk ry
    have hks0 := hks
    rw [← hks.1] at hj
    obtain ⟨hv1, hv2⟩ := idx_val hj
    have hw : valV kvs ky = some w' := by rw [hv1]; rw [List.getElem?_map] at h1; exact h1
    refine ⟨w', a :: g1, f, g2, by rw [h3]; simp, ⟨h2, fun H' y f' m k' r' => ?_⟩, fun Q q => .inr ⟨a, w', rfl, .inl ⟨kvs, ky, .inl hH, ey, hw.symm⟩, q⟩⟩
    have hs := h4 H' y w' f' m (fun b hb => k' b (by simp at hb ⊢; rcases hb with z | z <;> simp [z])) r'
    have e : (kvs.map (·.2)).set j w' = kvs.map (·.2) := by
      obtain ⟨q1, q2⟩ := List.getElem?_eq_some_iff.mp h1
      conv => rhs; rw [← List.set_getElem_self (as := kvs.map (·.2)) (i := j) q1]
      rw [q2]
    rw [e] at hs
    exact ⟨a, kvs, [a], _, rfl, ⟨by rw [k' a (by simp)]; exact hH, rfl⟩, hks, hs, .inl rfl, by simp⟩
  · cases h
theorem sl_idx {k : Nat} (hr : Room k X.A) (ha : SL X W i M1 a cl) (hb : SB X W M2 R2 b cb) (hs : PlainIx b := by exact fun _ _ => rfl) (hi : djB [i] M2 = true := by decide) : SL X W i (M1 ++ M2) (.Subscript a b pos) (lIdx cl cb) := by
  obtain ⟨t, p, q⟩ := ha.go
  obtain ⟨t2, p2, q2⟩ := hb.go
  refine ⟨tOp (fun x y H Q => rIx X.K x y H Q ∨ rIxD x y H Q) t t2, pe_ix (ix_seq.or (ix_dict hr)) p p2 hs, fun C fs env σ H tf Q hC G po => ?_⟩
  refine q C fs env σ H tf _ hC G ?_
  unfold lIdx at po
  cases e1 : cl env with
  | err => rw [e1] at po; exact po
  | ex x env' => rw [e1] at po; exact fun cv dd fs' H' G' s => po cv dd fs' H' G' (s.weak mem_l fun _ z => z)
  | ok dF env1 =>
    rw [e1] at po
    intro v' fs1 H1 d v g1 fp' g2 G1 s1 hd hv hf Fo
    refine q2 C fs1 env1 σ H1 tf _ hC G1 ?_
    have po1 : PostL W C i (M1 ++ M2) tf fs env σ H Q ((cb env1).bind fun y env => match kidD dF.1 y with
      | some (x, G) => .ok (x, dF.2 ∘ G) env
      | none => .err) := po
    cases e2 : cb env1 with
    | err => rw [e2] at po1; exact po1
    | ex x env' => rw [e2] at po1; exact fun cv dd fs' H' G' s => po1 cv dd fs' H' G' (s1.trans s)
    | ok y env2 =>
      rw [e2] at po1
      intro w fs2 H2 fw own G2 s2 rw' iw
      have ni : i ∉ M2 := djB_ok hi i (by simp)
      have Fo2 := Fo.keep s2.m (fun a ha => s2.h i ni a (by rw [hf]; exact ha))
      have po2 : PostL W C i (M1 ++ M2) tf fs env σ H Q (match kidD dF.1 y with
        | some (x, G) => .ok (x, dF.2 ∘ G) env2
        | none => .err) := po1
      cases e3 : kidD dF.1 y with
      | none => rw [e3] at po2; exact po2.elim
      | some xG =>
        rw [e3] at po2
        obtain ⟨x, Gf⟩ := xG
        obtain ⟨v2, h1, f2, h2, ef, F2, rd⟩ := foc_kid hC G2.fr Fo2.here rw' e3
        refine rd Q ?_
        refine po2 v2 fs2 H2 d v (g1 ++ h1) f2 (h2 ++ g2) G2.drop (s1.trans s2) (by rw [s2.e i ni]; exact hd) hv ?_ (Fo2.comp F2 ef)
        rw [s2.f i ni, hf, ef]; simp [List.append_assoc]

/-! ### a change at a place -/
theorem Good.mut {d v g1 d' v' fp' g2 F d'' fp'' fx} (G : Good C fs env σ H (fx ++ tf)) (e1 : env[i]? = some (some d)) (e2 : σ[i]? = some (some v)) (e3 : fs.getD i [] = g1 ++ fp' ++ g2) (Fo : Foc C H d v g1 d' v' fp' g2 F)
    (m : Mono H H') (ch : ∀ a o, H a = some o → a ∉ fp' → H' a = some o) (r : Rep C H' d'' v' fp'') (nd : (fp'' ++ tf').Nodup) (sub : ∀ a ∈ fp'' ++ tf', a ∈ fp' ∨ a ∈ fx ++ tf ∨ H a = none) (tk : ∀ a ∈ tf', ∃ o, H' a = some o ∧ Mutb o) :
    Good C (fs.set i (g1 ++ fp'' ++ g2)) (env.set i (some (F d''))) σ H' tf' := by
  have hl := G.lt e1
  have hle : i < env.length := by rw [G.le, ← G.lf]; exact hl
  -- the footprints that stay
  have p0 := flat_get fs hl
  have stay : ∀ a, (a ∈ g1 ++ g2 ∨ a ∈ (fs.set i []).flatten) → a ∉ fp' ∧ a ∉ fx ++ tf ∧ ∃ o, H a = some o ∧ Mutb o := by
    intro a ha
    have hm : a ∈ fs.flatten := by
      rcases ha with z | z
      · refine p0.mem_iff.mpr (List.mem_append_left _ ?_)
        rw [e3]; rcases List.mem_append.mp z with z | z <;> simp [z]
      · exact p0.mem_iff.mpr (List.mem_append_right _ z)
    refine ⟨fun hx => ?_, fun hx => (List.nodup_append.mp G.nd).2.2 a hm a hx rfl, G.trk a (List.mem_append_left _ hm)⟩
    have nd1 := p0.nodup_iff.mp (List.nodup_append.mp G.nd).1
    rw [e3] at nd1
    rcases ha with z | z
    · have := (List.nodup_append.mp nd1).1
      have pp : (g1 ++ fp' ++ g2).Perm (fp' ++ (g1 ++ g2)) := by
        rw [List.append_assoc]; exact List.perm_append_comm_assoc _ _ _
      exact (List.nodup_append.mp (pp.nodup_iff.mp this)).2.2 a hx a z rfl
    · exact (List.nodup_append.mp nd1).2.2 a (by simp [hx]) a z rfl
  have keep : ∀ a, (a ∈ g1 ++ g2 ∨ a ∈ (fs.set i []).flatten) → H' a = H a := fun a ha => by
    obtain ⟨h1, _, o, e, _⟩ := stay a ha
    rw [e]; exact ch a o e h1
  have p1 := flat_set fs hl (g1 ++ fp'' ++ g2)
  have pt : ((fs.set i (g1 ++ fp'' ++ g2)).flatten ++ tf').Perm ((g1 ++ g2) ++ (fs.set i []).flatten ++ (fp'' ++ tf')) := by
    refine (p1.append_right tf').trans ?_
    have a1 : (g1 ++ fp'' ++ g2).Perm ((g1 ++ g2) ++ fp'') := by
      rw [List.append_assoc, List.append_assoc]; exact List.perm_append_comm.append_left g1
    refine ((a1.append_right _).append_right _).trans ?_
    simp only [List.append_assoc]
    refine List.Perm.append_left _ (List.Perm.append_left _ ?_)
    exact List.perm_append_comm_assoc _ _ _
  refine ⟨by simpa using G.le, by simpa using G.lf, fun j dj ej => ?_, pt.nodup_iff.mpr (List.nodup_append.mpr ⟨?_, nd, fun a ha b hb eab => ?_⟩), fun a ha => ?_, fun a ha => ?_, ?_, fun a ha => ?_⟩
  · rw [List.getElem?_set] at ej
    by_cases hj : i = j
    · subst hj
      simp [hle] at ej; subst ej
      refine ⟨v, e2, ?_⟩
      rw [getD_set fs i i _ hl, if_pos rfl]
      exact Fo.back H' d'' fp'' m (fun a ha => keep a (.inl ha)) r
    · rw [if_neg hj] at ej
      obtain ⟨w, h1, h2⟩ := G.rep j dj ej
      refine ⟨w, h1, ?_⟩
      rw [getD_set fs i j _ hl, if_neg (Ne.symm hj)]
      refine h2.keep (fun a ha => keep a (.inr ?_)) m
      have : a ∈ (fs.set i []).getD j [] := by rw [getD_set fs i j _ hl, if_neg (Ne.symm hj)]; exact ha
      exact mem_flat this
  · have nd1 := p0.nodup_iff.mp (List.nodup_append.mp G.nd).1
    rw [e3] at nd1
    refine nd1.sublist ?_
    refine List.Sublist.append ?_ (List.Sublist.refl _)
    exact List.Sublist.append (List.sublist_append_left _ _) (List.Sublist.refl _)
  · subst eab
    obtain ⟨h1, h2, o, e, _⟩ := stay a (List.mem_append.mp ha)
    rcases sub a hb with z | z | z
    · exact h1 z
    · exact h2 z
    · rw [z] at e; cases e
  · have := pt.mem_iff.mp ha
    rcases List.mem_append.mp this with z | z
    · rcases List.mem_append.mp z with z | z
      · refine G.own a (List.mem_append_left _ (p0.mem_iff.mpr (List.mem_append_left _ ?_)))
        rw [e3]; rcases List.mem_append.mp z with z | z <;> simp [z]
      · exact G.own a (List.mem_append_left _ (p0.mem_iff.mpr (List.mem_append_right _ z)))
    · rcases sub a z with w | w | w
      · refine G.own a (List.mem_append_left _ (p0.mem_iff.mpr (List.mem_append_left _ ?_)))
        rw [e3]; simp [w]
      · exact G.own a (List.mem_append_right _ w)
      · exact G.fr.fresh w
  · have := pt.mem_iff.mp ha
    rcases List.mem_append.mp this with z | z
    · obtain ⟨_, _, o, e, mu⟩ := stay a (List.mem_append.mp z)
      exact ⟨o, by rw [keep a (List.mem_append.mp z)]; exact e, mu⟩
    · rcases List.mem_append.mp z with z | z
      · exact r.trk a z
      · exact tk a z
  · intro a o e na
    rcases G.fr a o e na with q | ⟨q1, q2, ob, q⟩
    · refine .inl (ch a o q fun hx => ?_)
      have : a ∈ fs.flatten := p0.mem_iff.mpr (List.mem_append_left _ (by rw [e3]; simp [hx]))
      rcases G.own a (List.mem_append_left _ this) with w | w
      · exact na w
      · rw [e] at w; cases w
    · exact .inr ⟨q1, q2, ob, m.z _ _ _ q⟩
  · obtain ⟨ob, u, e⟩ := G.lk a ha
    exact ⟨ob, u, m.z _ _ _ e⟩
theorem Step.mut {d : D} {g1 fp' g2 fx : List Addr} {dn : D} {fn : List Addr} (G : Good C fs env σ H (fx ++ tf)) (e1 : env[i]? = some (some d)) (e3 : fs.getD i [] = g1 ++ fp' ++ g2)
    (m : Mono H H') (ch : ∀ a o, H a = some o → a ∉ fp' → H' a = some o) : Step [i] tf fs env H (fs.set i fn) (env.set i (some dn)) H' := by
  have hl := G.lt e1
  have inf : ∀ a ∈ fp', a ∈ fs.getD i [] := fun a ha => by rw [e3]; simp [ha]
  refine ⟨fun a ha => ?_, fun j hj => ?_, fun j hj => ?_, fun j hj a ha => ?_, m⟩
  · obtain ⟨o, e, _⟩ := G.trk a (by simp [ha])
    rw [e]; exact ch a o e fun hx => G.apartT (inf a hx) (by simp [ha])
  · rw [getD_set fs i j _ hl, if_neg (by simpa using hj)]
  · rw [List.getElem?_set, if_neg (by intro z; subst z; simp at hj)]
  · obtain ⟨o, e, _⟩ := G.trk a (List.mem_append_left _ (mem_flat ha))
    rw [e]; exact ch a o e fun hx => G.apart (by simpa using hj) ha (inf a hx)

/-- a method of Python's own that changes its object -/
structure MuOk (X : Cx) (T : String) (r : V → List V → Hp → VK → Prop) (kd : D → Bool) (mp : D → List D → Option (D × D)) : Prop where
  run : ∀ C H v d fp vs ds fpa Q d' res, C.At X → Fr C H → Rep C H d v fp → Reps C H ds vs fpa → (fp ++ fpa).Nodup → mp d ds = some (d', res) →
    (∀ H' w fp' fpr, Mono H H' → (∀ a o, H a = some o → a ∉ fp → H' a = some o) → Rep C H' d' v fp' → Rep C H' res w fpr → (fp' ++ fpr).Nodup → (∀ a ∈ fp' ++ fpr, a ∈ fp ∨ a ∈ fpa ∨ H a = none) → Q w H') → r v vs H Q
  ty : ∀ C H v d fp, C.At X → Fr C H → Rep C H d v fp → kd d = true → tyV X.K T v H
def cMut (i : Nat) (kd : D → Bool) (mp : D → List D → Option (D × D)) (cl : CL) (cs : CA) : CE := fun env => (cl env).bind fun dF env => if kd dF.1 then (cs env).bind fun ds env => match mp dF.1 ds with
  | some dr => .ok dr.2 (env.set i (some (dF.2 dr.1)))
  | none => .err
  else .err
theorem mut_go {T : String} {r : V → List V → Hp → VK → Prop} {kd : D → Bool} {mp : D → List D → Option (D × D)} (mu : MuOk X T r kd mp) {t : TE} {t2 : TA} (hi : djB [i] M2 = true)
    (q : ∀ C fs env σ H tf Q, C.At X → Good C fs env σ H tf → PostL W C i M1 tf fs env σ H Q (cl env) → t σ H Q)
    (q2 : ∀ C fs env σ H tf Q, C.At X → Good C fs env σ H tf → PostAO W C M2 tf fs env σ H Q (cs env) → t2 σ H Q) {tt : TE}
    (htt : ∀ σ H Q, (t σ H fun x H1 => (tyV X.K T x H1 ∧ t2 σ H1 fun xs H2 => r x xs H2 Q)) → tt σ H Q) :
    ∀ C fs env σ H tf Q, C.At X → Good C fs env σ H tf → PostO W C (M1 ++ (M2 ++ [i])) tf fs env σ H Q (cMut i kd mp cl cs env) → tt σ H Q := by
  intro C fs env σ H tf Q hC G po
  refine htt σ H Q (q C fs env σ H tf _ hC G ?_)
  unfold cMut at po
  cases e1 : cl env with
  | err => rw [e1] at po; exact po
  | ex x env' => rw [e1] at po; exact fun cv dd fs' H' G' s => po cv dd fs' H' G' (s.weak mem_l fun _ z => z)
  | ok dF env1 =>
    rw [e1] at po
    intro v' fs1 H1 d v g1 fp' g2 G1 s1 hd hv hf Fo
    have po0 : PostO W C (M1 ++ (M2 ++ [i])) tf fs env σ H Q (if kd dF.1 then (cs env1).bind fun ds env => match mp dF.1 ds with
      | some dr => .ok dr.2 (env.set i (some (dF.2 dr.1)))
      | none => .err
      else .err) := po
    split at po0
    case isFalse => exact po0.elim
    rename_i hkd
    refine ⟨mu.ty C H1 v' dF.1 fp' hC G1.fr Fo.here hkd, ?_⟩
    refine q2 C fs1 env1 σ H1 tf _ hC G1 ?_
    have po1 : PostO W C (M1 ++ (M2 ++ [i])) tf fs env σ H Q ((cs env1).bind fun ds env => match mp dF.1 ds with
      | some dr => .ok dr.2 (env.set i (some (dF.2 dr.1)))
      | none => .err) := po0
    cases e2 : cs env1 with
    | err => rw [e2] at po1; exact po1
    | ex x env' => rw [e2] at po1; exact fun cv dd fs' H' G' s => po1 cv dd fs' H' G' ((s1.trans s).weak (fun i hi => by
        rcases List.mem_append.mp hi with z | z <;> simp [z]) fun _ z => z)
    | ok ds env2 =>
      rw [e2] at po1
      intro vs fs2 H2 fpa G2 s2 ra
      have ni : i ∉ M2 := djB_ok hi i (by simp)
      have Fo2 := Fo.keep s2.m (fun a ha => s2.h i ni a (by rw [hf]; exact ha))
      have hd2 : env2[i]? = some (some d) := by rw [s2.e i ni]; exact hd
      have hf2 : fs2.getD i [] = g1 ++ fp' ++ g2 := by rw [s2.f i ni]; exact hf
      have po2 : PostO W C (M1 ++ (M2 ++ [i])) tf fs env σ H Q (match mp dF.1 ds with
        | some dr => .ok dr.2 (env2.set i (some (dF.2 dr.1)))
        | none => .err) := po1
      cases e3 : mp dF.1 ds with
      | none => rw [e3] at po2; exact po2.elim
      | some dr =>
        rw [e3] at po2
        obtain ⟨d', res⟩ := dr
        have inf : ∀ a ∈ fp', a ∈ fs2.getD i [] := fun a ha => by rw [hf2]; simp [ha]
        have ndp : (fp' ++ fpa).Nodup := by
          have nd := G2.nd
          refine List.nodup_append.mpr ⟨?_, (List.nodup_append.mp (List.nodup_append.mp nd).2.1).1, fun a ha b hb eab => ?_⟩
          · have := (List.nodup_append.mp nd).1
            have := (flat_get fs2 (G2.lt hd2)).nodup_iff.mp this
            have := (List.nodup_append.mp this).1
            rw [hf2] at this
            exact (List.nodup_append.mp (List.nodup_append.mp this).1).2.1
          · subst eab; exact G2.apartT (inf a ha) (by simp [hb])
        refine mu.run C H2 v' dF.1 fp' vs ds fpa Q d' res hC G2.fr Fo2.here ra ndp e3 fun H3 w fp3 fpr m3 ch r3 rr nd3 sub3 => ?_
        have tfk : ∀ a ∈ tf, H3 a = H2 a := fun a ha => by
          obtain ⟨o, e, _⟩ := G2.trk a (by simp [ha])
          rw [e]; exact ch a o e fun hx => G2.apartT (inf a hx) (by simp [ha])
        have Gn : Good C (fs2.set i (g1 ++ fp3 ++ g2)) (env2.set i (some (dF.2 d'))) σ H3 (fpr ++ tf) := by
          refine G2.mut hd2 hv hf2 Fo2 m3 ch r3 ?_ ?_ ?_
          · rw [← List.append_assoc]
            refine List.nodup_append.mpr ⟨nd3, (List.nodup_append.mp (List.nodup_append.mp G2.nd).2.1).2.1, fun a ha b hb eab => ?_⟩
            subst eab
            rcases sub3 a ha with z | z | z
            · exact G2.apartT (inf a z) (by simp [hb])
            · exact (List.nodup_append.mp (List.nodup_append.mp G2.nd).2.1).2.2 a z a hb rfl
            · obtain ⟨o, e, _⟩ := G2.trk a (by simp [hb])
              rw [z] at e; cases e
          · intro a ha
            rw [← List.append_assoc] at ha
            rcases List.mem_append.mp ha with z | z
            · rcases sub3 a z with w | w | w
              · exact .inl w
              · exact .inr (.inl (by simp [w]))
              · exact .inr (.inr w)
            · exact .inr (.inl (by simp [z]))
          · intro a ha
            rcases List.mem_append.mp ha with z | z
            · exact rr.trk a z
            · rw [tfk a z]; exact G2.trk a (by simp [z])
        have sn : Step [i] tf fs2 env2 H2 (fs2.set i (g1 ++ fp3 ++ g2)) (env2.set i (some (dF.2 d'))) H3 := Step.mut (d := d) G2 hd2 hf2 m3 ch
        exact po2 w _ H3 fpr Gn (by
          have := (s1.trans s2).trans sn
          rw [List.append_assoc] at this; exact this) rr

variable {T id : String} {name : Str} {apos cpos : Pos} {r : V → List V → Hp → VK → Prop} {kd : D → Bool} {mp : D → List D → Option (D × D)} {e1' : Expr}
theorem so_mut (mu : MuOk X T r kd mp) (pa : PlainAttrs T) (slot : Slot T name id) (hty : typeOf (.builtin id) = pure (.type "method_descriptor")) (hm : MtR X id r) (ho : SL X W i M1 o cl) (ha : SAO X W M2 (e :: es) cs)
    (hi : djB [i] M2 = true := by decide) (hbase : attributeBase o name X.env (eval o X.env) = eval o X.env := by rfl)
    (hfew : ((backTo cpos (starEach (e :: es) X.env)).all (fun x => !x.1) && (backToKw cpos (keywordEach [] X.env)).all (fun x => x.1.isSome)
      && decide ((e :: es).length + ([] : List Keyword).length + (if ([] : List Keyword).isEmpty then 0 else 1) < 30)) = true := by rfl)
    (hline : (apos.endLine == cpos.line) = true := by rfl) (hs : starEach (e :: es) X.env = (false, eval e X.env) :: starEach es X.env := by rfl) (hplain : (backTo cpos (starEach es X.env)).any (·.1) = false := by rfl) :
    SO X W (M1 ++ (M2 ++ [i])) (.Call (.Attribute o name apos) (e :: es) [] cpos) (cMut i kd mp cl cs) := by
  obtain ⟨t, p, q⟩ := ho.go
  obtain ⟨t2, p2, q2⟩ := ha.go
  exact ⟨tBM X.K T r t t2, pe_bm pa slot hty hm p p2 hbase hfew hline hs hplain, mut_go mu hi q q2 fun σ H Q h => h⟩
theorem so_mut0 (mu : MuOk X T r kd mp) (pa : PlainAttrs T) (slot : Slot T name id) (hty : typeOf (.builtin id) = pure (.type "method_descriptor")) (hm : MtR X id r) (ho : SL X W i M1 o cl)
    (hbase : attributeBase o name X.env (eval o X.env) = eval o X.env := by rfl) (hline : (apos.endLine == cpos.line) = true := by rfl) :
    SO X W (M1 ++ ([] ++ [i])) (.Call (.Attribute o name apos) [] [] cpos) (cMut i kd mp cl cNil) := by
  obtain ⟨t, p, q⟩ := ho.go
  refine ⟨tBM0 X.K T r t, pe_bm0 pa slot hty hm p hbase hline, mut_go (t2 := tNil) mu (by unfold djB; simp) q (fun C fs env σ H tf Q hC G po => ?_) fun σ H Q h => h⟩
  exact po [] fs H [] (by simpa using G) .refl ⟨rfl, rfl⟩

def kdL : D → Bool
  | .lst .m _ => true
  | _ => false
theorem kdL_inv {d : D} (h : kdL d = true) : ∃ ds, d = .lst .m ds := by
  unfold kdL at h
  split at h
  · exact ⟨_, rfl⟩
  · cases h
theorem ty_list : ∀ C H v d fp, C.At X → Fr C H → Rep C H d v fp → kdL d = true → tyV X.K "list" v H := by
  intro C H v d fp hC hF r h
  obtain ⟨ds, rfl⟩ := kdL_inv h
  obtain ⟨a, vs, f, rfl, q, _⟩ := rep_list hC hF r
  exact .inl ⟨rfl, vs, q⟩
theorem rep_m {ds v fp} (r : Rep C H (.lst .m ds) v fp) : ∃ a vs f, v = .ref a ∧ H a = some (.lst vs) ∧ Reps C H ds vs f ∧ fp = a :: f := by
  obtain ⟨a, vs, f1, f2, e, ⟨h, rfl⟩, r, _, e2⟩ := r
  exact ⟨a, vs, f2, e, h, r, e2⟩
theorem reps_append : ∀ {ds es : List D} {vs ws : List V} {f g : List Addr}, Reps C H ds vs f → Reps C H es ws g → Reps C H (ds ++ es) (vs ++ ws) (f ++ g)
  | [], es, vs, ws, f, g, ⟨h1, h2⟩, r => by subst h1 h2; exact r
  | d :: ds, es, vs, ws, f, g, ⟨v, vs', f1, f2, e, r1, rs, e2⟩, r => by subst e e2; exact ⟨v, vs' ++ ws, f1, f2 ++ g, rfl, r1, reps_append rs r, by simp⟩
def mAppend : D → List D → Option (D × D)
  | .lst .m ds, [x] => if ds.length < sizeLine then some (.lst .m (ds ++ [x]), .non) else none
  | _, _ => none
theorem mu_append : MuOk X "list" rAppend kdL mAppend := by
  refine ⟨?_, ty_list⟩
  intro C H v d fp vs ds fpa Q d' res hC hF r ra nd h k
  unfold mAppend at h
  split at h
  · rename_i ds x
    split at h
    · rename_i hz
      cases h
      obtain ⟨a, ws, f, rfl, hH, rs, rfl⟩ := rep_m r
      obtain ⟨w, rfl, rx⟩ := reps1 ra
      have m := Mono.upd (o := .lst (ws ++ [w])) hH trivial
      have nda : a ∉ f ++ fpa := by simp at nd ⊢; exact ⟨nd.1.1, nd.1.2⟩
      have kp : ∀ b ∈ f ++ fpa, upd H a (.lst (ws ++ [w])) b = H b := fun b hb => upd_ne (fun z => nda (z ▸ hb))
      refine ⟨a, ws, w, rfl, rfl, hH, by rw [← reps_length rs]; exact hz, ?_⟩
      refine k _ .non (a :: (f ++ fpa)) [] m (fun b o e hb => ?_) ⟨a, _, [a], _, rfl, ⟨upd_same, rfl⟩, reps_append (rs.keep (fun b hb => kp b (by simp [hb])) m) ⟨w, [], fpa, [], rfl, rx.keep (fun b hb => kp b (by simp [hb])) m, ⟨rfl, rfl⟩, by simp⟩, .inl rfl, rfl⟩ ⟨rfl, rfl⟩ (by simpa using nd) fun b hb => ?_
      · rw [upd_ne (fun z => hb (by simp [z]))]; exact e
      · simp at hb ⊢
        rcases hb with z | z | z <;> simp [z]
    · cases h
  · cases h
def mPop : D → List D → Option (D × D)
  | .lst .m ds, [] => (ds[ds.length - 1]?).map fun x => (.lst .m ds.dropLast, x)
  | _, _ => none
theorem reps_last : ∀ {ds : List D} {vs : List V} {f : List Addr} {x : D}, Reps C H ds vs f → ds[ds.length - 1]? = some x → ∃ w g h, vs[vs.length - 1]? = some w ∧ Rep C H x w h ∧ Reps C H ds.dropLast vs.dropLast g ∧ f = g ++ h
  | [], vs, f, x, _, h => by simp at h
  | [d], vs, f, x, ⟨v, vs', f1, f2, e, r, ⟨e3, e4⟩, e2⟩, h => by
    simp at h; subst h; subst e3 e4 e e2
    exact ⟨v, [], f1, by simp, r, ⟨rfl, rfl⟩, by simp⟩
  | d :: d2 :: ds, vs, f, x, ⟨v, vs', f1, f2, e, r, rs, e2⟩, h => by
    subst e e2
    obtain ⟨w, g, h', h1, h2, h3, h4⟩ := reps_last (x := x) rs (by simpa using h)
    obtain ⟨v2, vs2, _, _, e3, _⟩ := rs
    subst e3
    exact ⟨w, f1 ++ g, h', by simpa using h1, h2, ⟨v, (v2 :: vs2).dropLast, f1, g, by simp, r, h3, rfl⟩, by rw [h4]; simp⟩
theorem mu_pop : MuOk X "list" rPop kdL mPop := by
  refine ⟨?_, ty_list⟩
  intro C H v d fp vs ds fpa Q d' res hC hF r ra nd h k
  unfold mPop at h
  split at h
  · rename_i ds
    obtain ⟨x, hx, h⟩ := Option.map_eq_some_iff.mp h
    cases h
    obtain ⟨a, ws, f, rfl, hH, rs, rfl⟩ := rep_m r
    obtain ⟨rfl, rfl⟩ := ra
    obtain ⟨w, g, h', h1, h2, h3, h4⟩ := reps_last rs hx
    have m := Mono.upd (o := .lst ws.dropLast) hH trivial
    have nda : a ∉ f := by simp at nd ⊢; exact nd.1
    have kp : ∀ b ∈ f, upd H a (.lst ws.dropLast) b = H b := fun b hb => upd_ne (fun z => nda (z ▸ hb))
    refine ⟨a, ws, w, rfl, rfl, hH, h1, ?_⟩
    subst h4
    refine k _ w (a :: g) h' m (fun b o e hb => ?_) ⟨a, _, [a], g, rfl, ⟨upd_same, rfl⟩, h3.keep (fun b hb => kp b (by simp [hb])) m, .inl rfl, rfl⟩ (h2.keep (fun b hb => kp b (by simp [hb])) m) (by simpa using nd) fun b hb => ?_
    · rw [upd_ne (fun z => hb (by simp [z]))]; exact e
    · left; simpa using hb
  · cases h

/-! ### a store into a place -/
def putD (ks : List Key) (ds : List D) (k : Key) (x : D) : D := match idxK ks k with
  | some j => .dct .m ks (ds.set j x)
  | none => .dct .m (ks ++ [k]) (ds ++ [x])
def stD : D → D → D → Option D
  | .lst .m ds, .int k, x => (ixN ds.length k).map fun j => .lst .m (ds.set j x)
  | .dct .m ks ds, k, x => k.key.bind fun k => if ks.length < sizeLine then some (putD ks ds k x) else none
  | _, _, _ => none
end
end VS

set_option maxRecDepth 100000
namespace VS
open PySem L2 SeqAt
section
variable {X : Cx} {W : WX} {M M1 M2 M3 V1 V2 V3 Rs R1 R2 R3 : List Nat} {e a b c tg o : Expr} {es : List Expr} {ca cb cc : CE} {cs : CA} {pos p : Pos} {cl : CL} {i : Nat}
variable {pins : List (Addr × Obj)} {σ : St} {H H1 H2 H' : Hp} {s : Shared} {C C' : Ctx} {fs fs1 fs2 : FPs} {env env1 env2 : Env} {tf tf' own : List Addr}
def rSetD : V → V → V → Hp → (Hp → Prop) → Prop := fun o i v H Q => ∃ a H', o = .ref a ∧ DPut H a i v H' ∧ Q H'
theorem set_dict {k : Nat} (hr : Room k X.A) : PSet X rSetD := by
  intro pins s σ H o i v ov iv u Q I ro ri rv ⟨a, H', e, g, q⟩
  subst e
  cases (show ov = Value.ref a from ro)
  exact d_setItem (by have := hr.units; omega) I g ri rv fun s' I' => ⟨H', I', q⟩
theorem set_any {k : Nat} (hr : Room k X.A) : PSet X (fun o i v H Q => rSetL o i v H Q ∨ rSetD o i v H Q) := by
  intro pins s σ H o i v ov iv u Q I ro ri rv h
  rcases h with h | h
  · exact set_list pins s σ H o i v ov iv u Q I ro ri rv h
  · exact set_dict hr pins s σ H o i v ov iv u Q I ro ri rv h
theorem map_snd_set {kvs : List (Key × V)} {j : Nat} {k : Key} {v : V} : (kvs.set j (k, v)).map (·.2) = (kvs.map (·.2)).set j v := by
  rw [List.map_set]
theorem map_fst_set {kvs : List (Key × V)} {j : Nat} {k : Key} {v : V} (h : (kvs[j]?).map (·.1) = some k) : (kvs.set j (k, v)).map (·.1) = kvs.map (·.1) := by
  rw [List.map_set]
  have hj : j < kvs.length := by
    by_cases q : j < kvs.length
    · exact q
    · rw [List.getElem?_eq_none (by omega)] at h; simp at h
  have : (kvs.map (·.1))[j]'(by simpa using hj) = k := by
    rw [List.getElem?_eq_getElem hj] at h
    simpa using h
  conv => rhs; rw [← List.set_getElem_self (as := kvs.map (·.1)) (i := j) (by simpa using hj)]
  rw [this]
theorem idx_at : ∀ {ks : List Key} {k : Key} {j : Nat}, idxK ks k = some j → ks[j]? = some k
  | [], k, j, h => by simp [idxK] at h
  | k0 :: ks, k, j, h => by
    simp only [idxK] at h
    by_cases e : k0 = k
    · rw [if_pos e] at h; cases h; simp [e]
    · rw [if_neg e] at h
      obtain ⟨j', h', rfl⟩ := Option.map_eq_some_iff.mp h
      simpa using idx_at h'
theorem idx_not : ∀ {ks : List Key} {k : Key}, idxK ks k = none → k ∉ ks
  | [], k, _ => by simp
  | k0 :: ks, k, h => by
    simp only [idxK] at h
    by_cases e : k0 = k
    · rw [if_pos e] at h; cases h
    · rw [if_neg e] at h
      have := idx_not (ks := ks) (k := k) (by simpa using h)
      simp [this, Ne.symm e]
theorem st_ok {d y x d' : D} {v w vx : V} {fp fw fx} (hC : C.At X) (hF : Fr C H) (r : Rep C H d v fp) (ry : Rep C H y w fw) (rx : Rep C H x vx fx) (nd : (fp ++ fx).Nodup) (h : stD d y x = some d') {Q : Hp → Prop}
    (k : ∀ H' fp', Mono H H' → (∀ a o, H a = some o → a ∉ fp → H' a = some o) → Rep C H' d' v fp' → fp'.Nodup → (∀ a ∈ fp', a ∈ fp ∨ a ∈ fx) → Q H') : rSetL v w vx H Q ∨ rSetD v w vx H Q := by
  unfold stD at h
  split at h
  · rename_i ds n
    obtain ⟨j, hj, rfl⟩ := Option.map_eq_some_iff.mp h
    obtain ⟨a, vs, f, rfl, hH, rs, rfl⟩ := rep_m r
    obtain ⟨rfl, _⟩ := ry
    have hjl : j < ds.length := (ixN_seq hj).2.1
    obtain ⟨w', g1, fo, g2, h1, h2, h3, h4⟩ := reps_set rs (j := j) (x := ds[j]) (by simp [hjl])
    have m := Mono.upd (o := .lst (vs.set j vx)) hH trivial
    subst h3
    have nda : a ∉ g1 ++ fo ++ g2 ++ fx := by simp at nd ⊢; exact ⟨nd.1.1, nd.1.2.1, nd.1.2.2.1, nd.1.2.2.2⟩
    refine .inl ⟨a, vs, n, j, rfl, rfl, hH, by rw [← reps_length rs]; exact hj, ?_⟩
    have kp : ∀ b, b ≠ a → upd H a (.lst (vs.set j vx)) b = H b := fun b hb => upd_ne hb
    refine k _ (a :: (g1 ++ fx ++ g2)) m (fun b o e hb => ?_) ⟨a, _, [a], _, rfl, ⟨upd_same, rfl⟩, h4 _ x vx fx m (fun b hb => kp b ?_) (rx.keep (fun b hb => kp b ?_) m), .inl rfl, rfl⟩ ?_ ?_
    · rw [kp b (fun z => hb (by simp [z]))]; exact e
    · intro z; subst z; exact nda (by simp at hb ⊢; rcases hb with z | z <;> simp [z])
    · intro z; subst z; exact nda (by simp [hb])
    · have p : (a :: (g1 ++ fx ++ g2) ++ fo).Perm (a :: (g1 ++ fo ++ g2) ++ fx) := by
        refine List.Perm.cons a ?_
        show ((g1 ++ fx ++ g2) ++ fo).Perm ((g1 ++ fo ++ g2) ++ fx)
        simp only [List.append_assoc]
        refine List.Perm.append_left g1 ?_
        have a1 : (fx ++ (g2 ++ fo)).Perm ((g2 ++ fo) ++ fx) := List.perm_append_comm
        refine a1.trans ?_
        rw [List.append_assoc]
        exact List.perm_append_comm_assoc _ _ _
      exact (List.nodup_append.mp (p.nodup_iff.mpr nd)).1
    · intro b hb
      simp at hb ⊢
      rcases hb with z | z | z | z <;> simp [z]
  · rename_i ks ds
    obtain ⟨ky, hk, h⟩ := Option.bind_eq_some_iff.mp h
    split at h
    case isFalse => cases h
    rename_i hz
    cases h
    obtain ⟨a, kvs, f1, f, rfl, ⟨hH, rfl⟩, ⟨hks, hnd⟩, rs, _, rfl⟩ := r
    have ey := key_of hk ry
    have hl : kvs.length < sizeLine := by
      have : kvs.length = ks.length := by rw [← hks]; simp
      omega
    have m := Mono.upd (o := .dK (putK kvs ky vx)) hH trivial
    have kp : ∀ b, b ≠ a → upd H a (.dK (putK kvs ky vx)) b = H b := fun b hb => upd_ne hb
    refine .inr ⟨a, _, rfl, .inl ⟨kvs, ky, hH, ey, hl, rfl⟩, ?_⟩
    cases q : idxK ks ky with
    | some j =>
      have ed : putD ks ds ky x = .dct .m ks (ds.set j x) := by unfold putD; rw [q]
      rw [ed] at k
      have q' := q
      rw [← hks] at q'
      have hn : (kvs.map (·.1)).Nodup := by rw [hks]; exact hnd
      have e1 := idx_nodup (v := vx) hn q'
      have hj := (idx_val q').2
      have hjd : j < ds.length := by rw [reps_length rs]; simpa using hj
      obtain ⟨w', g1, fo, g2, h1, h2, h3, h4⟩ := reps_set rs (j := j) (x := ds[j]) (by simp [hjd])
      subst h3
      have nda : a ∉ g1 ++ fo ++ g2 ++ fx := by simp at nd ⊢; exact ⟨nd.1.1, nd.1.2.1, nd.1.2.2.1, nd.1.2.2.2⟩
      refine k _ (a :: (g1 ++ fx ++ g2)) m (fun b o e hb => ?_) ⟨a, putK kvs ky vx, [a], _, rfl, ⟨upd_same, rfl⟩, ⟨?_, hnd⟩, ?_, .inl rfl, rfl⟩ ?_ ?_
      · rw [kp b (fun z => hb (by simp [z]))]; exact e
      · rw [e1, map_fst_set, hks]
        have := idx_at q'
        rw [List.getElem?_map] at this; exact this
      · have hs2 : (putK kvs ky vx).map (·.2) = (kvs.map (·.2)).set j vx := by rw [e1, map_snd_set]
        rw [hs2]
        refine h4 _ x vx fx m (fun b hb => kp b ?_) (rx.keep (fun b hb => kp b ?_) m)
        · intro z; subst z; exact nda (by simp at hb ⊢; rcases hb with z | z <;> simp [z])
        · intro z; subst z; exact nda (by simp [hb])
      · have p : (a :: (g1 ++ fx ++ g2) ++ fo).Perm (a :: (g1 ++ fo ++ g2) ++ fx) := by
          refine List.Perm.cons a ?_
          show ((g1 ++ fx ++ g2) ++ fo).Perm ((g1 ++ fo ++ g2) ++ fx)
          simp only [List.append_assoc]
          refine List.Perm.append_left g1 ?_
          have a1 : (fx ++ (g2 ++ fo)).Perm ((g2 ++ fo) ++ fx) := List.perm_append_comm
          refine a1.trans ?_
          rw [List.append_assoc]
          exact List.perm_append_comm_assoc _ _ _
        exact (List.nodup_append.mp (p.nodup_iff.mpr (by simpa using nd))).1
      · intro b hb
        simp at hb ⊢
        rcases hb with z | z | z | z <;> simp [z]
    | none =>
      have ed : putD ks ds ky x = .dct .m (ks ++ [ky]) (ds ++ [x]) := by unfold putD; rw [q]
      rw [ed] at k
      have q' := q
      rw [← hks] at q'
      have e1 := putK_new vx (idx_none q')
      have nda : a ∉ f ++ fx := by simp at nd ⊢; exact ⟨nd.1.1, nd.1.2⟩
      refine k _ (a :: (f ++ fx)) m (fun b o e hb => ?_) ⟨a, putK kvs ky vx, [a], _, rfl, ⟨upd_same, rfl⟩, ⟨by rw [e1, List.map_append, hks]; rfl, ?_⟩, ?_, .inl rfl, rfl⟩ (by simpa using nd) ?_
      · rw [kp b (fun z => hb (by simp [z]))]; exact e
      · refine List.nodup_append.mpr ⟨hnd, by simp, fun x hx y hy e => ?_⟩
        simp at hy; subst hy; subst e
        exact idx_not q hx
      · have hs2 : (putK kvs ky vx).map (·.2) = kvs.map (·.2) ++ [vx] := by rw [e1, List.map_append]; rfl
        rw [hs2]
        refine reps_append (rs.keep (fun b hb => kp b ?_) m) ⟨vx, [], fx, [], rfl, rx.keep (fun b hb => kp b ?_) m, ⟨rfl, rfl⟩, by simp⟩
        · intro z; subst z; exact nda (by simp [hb])
        · intro z; subst z; exact nda (by simp [hb])
      · intro b hb
        simp at hb ⊢
        rcases hb with z | z | z <;> simp [z]
  · cases h
def gSubD (i : Nat) (cl : CL) (cb : CE) : D → Env → Option Env := fun x env => match cl env with
  | .ok dF env1 => match cb env1 with
    | .ok y env2 => (stD dF.1 y x).map fun d' => env2.set i (some (dF.2 d'))
    | _ => none
  | _ => none
theorem sg_sub {k : Nat} {W1 W2 : WX} (hr : Room k X.A) (ho : SL X W1 i M1 o cl) (hb : SB X W2 M2 R2 b cb) (hi : djB [i] M2 = true := by decide)
    (ha : ∀ v, assign (.Subscript o b pos) X.env v = (do
      let ov ← holding [v] (eval o X.env)
      let iv ← holding [v, ov] (eval b X.env)
      standAt pos
      holding [v, ov, iv] (setItem ov iv v)
      release [v, ov, iv] []) := by intro _; rfl) : SG X (M1 ++ (M2 ++ [i])) [] (.Subscript o b pos) (gSubD i cl cb) := by
  obtain ⟨t, p, q⟩ := ho.go
  obtain ⟨t2, p2, q2⟩ := hb.go
  refine ⟨gSub t t2 _, pg_sub p p2 (set_any hr) ha, fun C fs env σ H tf Q x vx fx hC G rx po => ?_⟩
  unfold gSubD at po
  refine q C fs env σ H (fx ++ tf) _ hC G ?_
  cases e1 : cl env with
  | err => rw [e1] at po; exact po.elim
  | ex z env' => rw [e1] at po; exact po.elim
  | ok dF env1 =>
    rw [e1] at po
    intro v' fs1 H1 d v g1 fp' g2 G1 s1 hd hv hf Fo
    refine q2 C fs1 env1 σ H1 (fx ++ tf) _ hC G1 ?_
    have po1 : PostG C (M1 ++ (M2 ++ [i])) [] tf fs env σ H Q (match cb env1 with
      | .ok y env2 => (stD dF.1 y x).map fun d' => env2.set i (some (dF.2 d'))
      | _ => none) := po
    cases e2 : cb env1 with
    | err => rw [e2] at po1; exact po1.elim
    | ex z env' => rw [e2] at po1; exact po1.elim
    | ok y env2 =>
      rw [e2] at po1
      intro w fs2 H2 fw own G2 s2 rw' iw
      have ni : i ∉ M2 := djB_ok hi i (by simp)
      have Fo2 := Fo.keep s2.m (fun a ha => s2.h i ni a (by rw [hf]; exact ha))
      have hd2 : env2[i]? = some (some d) := by rw [s2.e i ni]; exact hd
      have hf2 : fs2.getD i [] = g1 ++ fp' ++ g2 := by rw [s2.f i ni]; exact hf
      have po2 : PostG C (M1 ++ (M2 ++ [i])) [] tf fs env σ H Q ((stD dF.1 y x).map fun d' => env2.set i (some (dF.2 d'))) := po1
      cases e3 : stD dF.1 y x with
      | none => rw [e3] at po2; exact po2.elim
      | some d' =>
        rw [e3] at po2
        have G2' : Good C fs2 env2 σ H2 (fx ++ tf) := G2.drop
        have rx2 : Rep C H2 x vx fx := (rx.keep (fun a ha => s1.t a (by simp [ha])) s1.m).keep (fun a ha => s2.t a (by simp [ha])) s2.m
        have inf : ∀ a ∈ fp', a ∈ fs2.getD i [] := fun a ha => by rw [hf2]; simp [ha]
        have ndp : (fp' ++ fx).Nodup := by
          have nd := G2'.nd
          refine List.nodup_append.mpr ⟨?_, (List.nodup_append.mp (List.nodup_append.mp nd).2.1).1, fun a ha b hb eab => ?_⟩
          · have := (List.nodup_append.mp nd).1
            have := (flat_get fs2 (G2'.lt hd2)).nodup_iff.mp this
            have := (List.nodup_append.mp this).1
            rw [hf2] at this
            exact (List.nodup_append.mp (List.nodup_append.mp this).1).2.1
          · subst eab; exact G2'.apartT (inf a ha) (by simp [hb])
        refine st_ok hC G2.fr Fo2.here rw' rx2 ndp e3 fun H3 fp3 m3 ch r3 nd3 sub3 => ?_
        have tfk : ∀ a ∈ tf, H3 a = H2 a := fun a ha => by
          obtain ⟨o, e, _⟩ := G2'.trk a (by simp [ha])
          rw [e]; exact ch a o e fun hx => G2'.apartT (inf a hx) (by simp [ha])
        have Gn : Good C (fs2.set i (g1 ++ fp3 ++ g2)) (env2.set i (some (dF.2 d'))) σ H3 tf := by
          refine G2'.mut hd2 hv hf2 Fo2 m3 ch r3 ?_ ?_ ?_
          · refine List.nodup_append.mpr ⟨nd3, (List.nodup_append.mp (List.nodup_append.mp G2'.nd).2.1).2.1, fun a ha b hb eab => ?_⟩
            subst eab
            rcases sub3 a ha with z | z
            · exact G2'.apartT (inf a z) (by simp [hb])
            · exact (List.nodup_append.mp (List.nodup_append.mp G2'.nd).2.1).2.2 a z a hb rfl
          · intro a ha
            rcases List.mem_append.mp ha with z | z
            · rcases sub3 a z with w | w
              · exact .inl w
              · exact .inr (.inl (by simp [w]))
            · exact .inr (.inl (by simp [z]))
          · intro a ha
            rw [tfk a ha]; exact G2'.trk a (by simp [ha])
        have sn : Step [i] tf fs2 env2 H2 (fs2.set i (g1 ++ fp3 ++ g2)) (env2.set i (some (dF.2 d'))) H3 := Step.mut (d := d) G2' hd2 hf2 m3 ch
        have w1 := s1.weak (M' := M1) (tf' := tf) (fun _ z => z) fun x hx => by simp [hx]
        have w2 := s2.weak (M' := M2) (tf' := tf) (fun _ z => z) fun x hx => by simp [hx]
        have := (w1.trans w2).trans sn
        rw [List.append_assoc] at this
        exact po2 _ σ H3 Gn this.ss
end
end VS

set_option maxRecDepth 100000
namespace VS
open PySem L2 SeqAt
section
variable {X : Cx} {W : WX} {pos : Pos}
/-- a name's value as an owned one: shared where it may be, else moved out -/
def cGet (i : Nat) : CE := fun env => match env[i]? with
  | some (some d) => if d.imm then .ok d env else .ok d (env.set i none)
  | _ => .err
theorem so_get (i : Nat) {x : Str} (hN : X.N[i]? = some x := by rfl) (hv : Vis X.env.scope x := by first | exact Or.inl rfl | exact Or.inr (Or.inl rfl) | exact Or.inr (Or.inr rfl)) (hd : (x == ("__debug__" : Str)) = false := by decide)
    (hcd : (x == ("__classdict__" : Str)) = false := by decide) : SO X W [i] (.Name x pos) (cGet i) := by
  refine ⟨tVar i, pe_var hN hv hd hcd, fun C fs env σ H tf Q hC G po => ?_⟩
  unfold cGet at po
  split at po
  · rename_i d e1
    obtain ⟨v, e2, r⟩ := G.rep i d e1
    split at po
    · rename_i hi
      refine ⟨v, e2, po v fs H [] (by simpa using G) .refl ?_⟩
      have := r.imm hi
      first | exact this | exact this.1 | (subst this; exact r) | (rw [this] at r; exact r)
    · refine ⟨v, e2, po v (fs.set i []) H _ (G.mv e1) ⟨fun _ _ => rfl, fun j hj => ?_, fun j hj => ?_, fun _ _ _ _ => rfl, .refl H⟩ r⟩
      · rw [getD_set fs i j [] (G.lt e1), if_neg (by simpa using hj)]
      · rw [List.getElem?_set, if_neg (by intro z; subst z; simp at hj)]
  · exact po.elim

/-! ### the same with the slot left to be found from the combinator -/
variable {M M1 M2 M3 V1 V2 V3 Rs R1 R2 R3 : List Nat} {e a b c tg : Expr} {es : List Expr} {ca cb cc : CE} {cs : CA} {cr : Env → R (List AV)} {io : List Bool} {i j : Nat} {x y : Str}
theorem ss_parI {px py pt : Pos} {kt k2 pt2} (hc : X.calm = true) (hN : X.N.Nodup) (ha : SAO X W M [a, b] cs) (hi : X.N[i]? = some x := by rfl) (hj : X.N[j]? = some y := by rfl) (hij : i ≠ j := by decide)
    (hx : X.env.scope.names.lookup x = some .local := by rfl) (hy : X.env.scope.names.lookup y = some .local := by rfl)
    (hw : swappedStores [.Tuple [.Name x px, .Name y py] kt pt] (.Tuple [a, b] k2 pt2) X.env = pure (some [x, y]) := by rfl)
    (hs : swapsWithSole [.Tuple [.Name x px, .Name y py] kt pt] (.Tuple [a, b] k2 pt2) pos.line X.env = pure false := by rfl) :
    SS X W (M ++ ([i] ++ [j])) ([i] ++ [j]) (.Assign [.Tuple [.Name x px, .Name y py] kt pt] (.Tuple [a, b] k2 pt2) pos) (sPar i j cs) := ss_par i j hc hN ha hi hj hij hx hy hw hs
theorem ss_setI {pos' : Pos} (hN : X.N.Nodup) (h : SO X W M e ca) (hi : X.N[i]? = some x := by rfl) (hx : Loc X.env.scope x := by first | exact .inl rfl | exact .inr rfl) (hs : swapsWith e (some (.Name x pos')) pos.line X.env = pure false := by rfl) (hf : X.fn x = true ∨ X.env.scope.names.lookup x = some .local := by first | exact .inl rfl | exact .inr rfl | assumption) :
    SS X W (M ++ [i]) [i] (.Assign [.Name x pos'] e pos) (sAsg ca (gSet i)) := ss_set i hN h hi hx hs hf
theorem sri_ioI (hr : SRI X W M2 R2 io es cr) (hN : X.N[i]? = some x := by rfl) (hv : Vis X.env.scope x := by first | exact Or.inl rfl | exact Or.inr (Or.inl rfl) | exact Or.inr (Or.inr rfl)) (hd : (x == ("__debug__" : Str)) = false := by decide)
    (hcd : (x == ("__classdict__" : Str)) = false := by decide) (hs : starEach (.Name x pos :: es) X.env = (false, eval (.Name x pos) X.env) :: starEach es X.env := by rfl) : SRI X W ([i] ++ M2) R2 (true :: io) (.Name x pos :: es) (aOw (cMv i) (some i) cr) := sri_io i hr hN hv hd hcd hs
end
end VS

set_option maxRecDepth 100000
namespace VS
open PySem L2 SeqAt
section
variable {α β : Type} (env : Env) (i j : Nat) (c ca cb cc : CE) (cs : CA) (ct : CT) (ta tb : CT) (d : D) (p q : D → D → Option D) (p1 : D → Option D) (pl : List D → Option D) (s1 s2 : CS) (g : D → Env → Option Env)
@[simp] theorem e_bind1 (a : α) (f : α → Env → R β) : (R.ok a env).bind f = f a env := (rfl)
@[simp] theorem e_bind2 (x : Exn) (f : α → Env → R β) : (R.ex x env : R α).bind f = .ex x env := (rfl)
@[simp] theorem e_bind3 (f : α → Env → R β) : (R.err : R α).bind f = .err := (rfl)
@[simp] theorem e_of1 (a : α) : R.of (some a) env = .ok a env := (rfl)
@[simp] theorem e_of2 : R.of (none : Option α) env = .err := (rfl)
@[simp] theorem e_var : cVar i env = match env[i]? with
  | some (some d) => .ok d env
  | _ => .err := (rfl)
@[simp] theorem e_mv : cMv i env = match env[i]? with
  | some (some d) => .ok d (env.set i none)
  | _ => .err := (rfl)
@[simp] theorem e_get : cGet i env = match env[i]? with
  | some (some d) => if d.imm then .ok d env else .ok d (env.set i none)
  | _ => .err := (rfl)
@[simp] theorem e_k : cK d env = .ok d env := (rfl)
@[simp] theorem e_two : cTwo ca cb env = (ca env).bind fun x env => (cb env).bind fun y env => .ok (x, y) env := (rfl)
@[simp] theorem e_2 : c2 p ca cb env = (cTwo ca cb env).bind fun xy env => R.of (p xy.1 xy.2) env := (rfl)
@[simp] theorem e_1 : c1 p1 ca env = (ca env).bind fun x env => R.of (p1 x) env := (rfl)
@[simp] theorem e_idx : cIdx ca cb env = c2 ixD ca cb env := (rfl)
@[simp] theorem e_imm : cImm c env = (c env).bind fun d env => if d.imm then .ok d env else .err := (rfl)
@[simp] theorem e_nil : cNil env = .ok [] env := (rfl)
@[simp] theorem e_cons : cCons c cs env = (c env).bind fun d env => (cs env).bind fun ds env => .ok (d :: ds) env := (rfl)
@[simp] theorem e_L : cL pl cs env = (cs env).bind fun ds env => R.of (pl ds) env := (rfl)
@[simp] theorem e_tup : cTup cs env = (cs env).bind fun ds env => if ds.length ≤ sizeLine then .ok (.tup ds) env else .err := (rfl)
@[simp] theorem e_lst : cLst cs env = (cs env).bind fun ds env => if ds.length ≤ sizeLine then .ok (.lst .m ds) env else .err := (rfl)
@[simp] theorem e_tt : cTt ca env = (ca env).bind fun d env => R.of d.tt env := (rfl)
@[simp] theorem e_tt1 (b : Bool) : D.tt (.bl b) = some b := (rfl)
@[simp] theorem e_tand : tcAnd ta tb env = (ta env).bind fun b env => if b = true then tb env else .ok false env := (rfl)
@[simp] theorem e_tor : tcOr ta tb env = (ta env).bind fun b env => if b = true then .ok true env else tb env := (rfl)
@[simp] theorem e_tnot : tcNot ta env = (ta env).bind fun b env => .ok (!b) env := (rfl)
@[simp] theorem e_and : cAnd ca cb env = (ca env).bind fun d env => match d with
  | .bl true => cb env
  | .bl false => .ok (.bl false) env
  | _ => .err := (rfl)
@[simp] theorem e_or : cOr ca cb env = (ca env).bind fun d env => match d with
  | .bl true => .ok (.bl true) env
  | .bl false => cb env
  | _ => .err := (rfl)
@[simp] theorem e_not : cNot ca env = (ca env).bind fun d env => match d with
  | .bl b => .ok (.bl (!b)) env
  | _ => .err := (rfl)
@[simp] theorem e_chain : cChain p q ca cb cc env = (cTwo ca cb env).bind fun xy env => match p xy.1 xy.2 with
  | some (.bl true) => (cc env).bind fun z env => R.of (q xy.2 z) env
  | some (.bl false) => .ok (.bl false) env
  | _ => .err := (rfl)
@[simp] theorem e_if : cIf ct ca cb env = (ct env).bind fun k env => if k = true then ca env else cb env := (rfl)
@[simp] theorem e_anil : aNil env = .ok [] env := (rfl)
@[simp] theorem e_aro (cr : Env → R (List AV)) : aRo ca cr env = (ca env).bind fun d env => (cr env).bind fun as env => .ok (.ro d :: as) env := (rfl)
@[simp] theorem e_aow (wb : Option Nat) (cr : Env → R (List AV)) : aOw ca wb cr env = (ca env).bind fun d env => (cr env).bind fun as env => .ok (.ow d wb :: as) env := (rfl)
@[simp] theorem e_call (φ : List D → FR) (cr : Env → R (List AV)) : cCall φ cr env = (cr env).bind fun avs env => callEnd avs env (φ (avs.map AV.d)) := (rfl)
@[simp] theorem e_end1 (avs : List AV) (r : D) (os : List D) : callEnd avs env (.ok r os) = if r.nol && nols os then (match putBack avs os env with
    | some env' => .ok r env'
    | none => .err) else .err := (rfl)
@[simp] theorem e_end2 (avs : List AV) (x : Exn) (os : List D) : callEnd avs env (.ex x os) = if nols os then (match putBack avs os env with
    | some env' => .ex x env'
    | none => .err) else .err := (rfl)
@[simp] theorem e_ro (d : D) : AV.d (.ro d) = d.lend := (rfl)
@[simp] theorem e_ow (d : D) (wb : Option Nat) : AV.d (.ow d wb) = d := (rfl)
@[simp] theorem e_pb0 : putBack [] [] env = some env := (rfl)
@[simp] theorem e_pb1 (d : D) (as : List AV) (os : List D) : putBack (.ro d :: as) os env = putBack as os env := by
  cases as <;> cases os <;> rfl
@[simp] theorem e_pb2 (d o : D) (as : List AV) (os : List D) : putBack (.ow d (some i) :: as) (o :: os) env = putBack as os (env.set i (some o)) := (rfl)
@[simp] theorem e_pb3 (d o : D) (as : List AV) (os : List D) : putBack (.ow d none :: as) (o :: os) env = putBack as os env := (rfl)
/-! statements -/
@[simp] theorem e_snil : sNil env = .nx env := (rfl)
@[simp] theorem e_seq : sSeq s1 s2 env = (s1 env).bind s2 := (rfl)
@[simp] theorem e_ob1 (f : CS) : (O.nx env).bind f = f env := (rfl)
@[simp] theorem e_ob2 (f : CS) : (O.rt d env).bind f = .rt d env := (rfl)
@[simp] theorem e_ob3 (f : CS) : (O.bk env).bind f = .bk env := (rfl)
@[simp] theorem e_ob4 (f : CS) : (O.ct env).bind f = .ct env := (rfl)
@[simp] theorem e_ob5 (x : Exn) (f : CS) : (O.ex x env).bind f = .ex x env := (rfl)
@[simp] theorem e_ob6 (f : CS) : (O.err).bind f = .err := (rfl)
@[simp] theorem e_expr : sExpr c env = match c env with
  | .ok _ env => .nx env
  | .ex x env => .ex x env
  | .err => .err := (rfl)
@[simp] theorem e_ret : sRet c env = match c env with
  | .ok d env => .rt d env
  | .ex x env => .ex x env
  | .err => .err := (rfl)
@[simp] theorem e_sif : sIf ct s1 s2 env = match ct env with
  | .ok k env => if k = true then s1 env else s2 env
  | .ex x env => .ex x env
  | .err => .err := (rfl)
@[simp] theorem e_gset : gSet i d env = some (env.set i (some d)) := (rfl)
@[simp] theorem e_asg : sAsg c g env = match c env with
  | .ok d env => match g d env with
    | some env => .nx env
    | none => .err
  | .ex x env => .ex x env
  | .err => .err := (rfl)
@[simp] theorem e_par : sPar i j cs env = match cs env with
  | .ok [d, e] env => .nx ((env.set i (some d)).set j (some e))
  | .ok _ _ => .err
  | .ex x env => .ex x env
  | .err => .err := (rfl)
@[simp] theorem e_kills (is : List Nat) : sKills is s1 env = s1 (is.foldl (fun env i => env.set i none) env) := (rfl)
/-! trees -/
@[simp] theorem e_imm1 (i : Int) : (D.int i).imm = true := (rfl)
@[simp] theorem e_imm2 (b : Bool) : (D.bl b).imm = true := (rfl)
@[simp] theorem e_imm3 (s : Str) : (D.str s).imm = true := (rfl)
@[simp] theorem e_imm4 : D.non.imm = true := (rfl)
@[simp] theorem e_imm5 (ds : List D) : (D.tup ds).imm = imms ds := (rfl)
@[simp] theorem e_imm6 (g : Fl) (ds : List D) : (D.lst g ds).imm = ((g == .l || g == .f) && imms ds) := (rfl)
@[simp] theorem e_imms0 : imms [] = true := (rfl)
@[simp] theorem e_imms1 (ds : List D) : imms (d :: ds) = (d.imm && imms ds) := (rfl)
@[simp] theorem e_nol1 (i : Int) : (D.int i).nol = true := (rfl)
@[simp] theorem e_nol2 (b : Bool) : (D.bl b).nol = true := (rfl)
@[simp] theorem e_nol3 (s : Str) : (D.str s).nol = true := (rfl)
@[simp] theorem e_nol4 : D.non.nol = true := (rfl)
@[simp] theorem e_nol5 (ds : List D) : (D.tup ds).nol = nols ds := (rfl)
@[simp] theorem e_nol6 (ds : List D) : (D.lst .m ds).nol = nols ds := (rfl)
@[simp] theorem e_nols0 : nols [] = true := (rfl)
@[simp] theorem e_nols1 (ds : List D) : nols (d :: ds) = (d.nol && nols ds) := (rfl)
@[simp] theorem e_lend1 (i : Int) : (D.int i).lend = .int i := (rfl)
@[simp] theorem e_lend2 (b : Bool) : (D.bl b).lend = .bl b := (rfl)
@[simp] theorem e_lend3 (s : Str) : (D.str s).lend = .str s := (rfl)
@[simp] theorem e_lend4 : D.non.lend = .non := (rfl)
@[simp] theorem e_lend5 (ds : List D) : (D.tup ds).lend = .tup (lends ds) := (rfl)
@[simp] theorem e_lend6 (ds : List D) : (D.lst .m ds).lend = .lst .l (lends ds) := (rfl)
@[simp] theorem e_lend7 (ds : List D) : (D.lst .l ds).lend = .lst .l (lends ds) := (rfl)
@[simp] theorem e_lends0 : lends [] = [] := (rfl)
@[simp] theorem e_lends1 (ds : List D) : lends (d :: ds) = d.lend :: lends ds := (rfl)
@[simp] theorem lends_ints : ∀ ns : List Int, lends (ns.map D.int) = ns.map D.int
  | [] => rfl
  | n :: ns => by simp [lends_ints ns]
@[simp] theorem imms_ints : ∀ ns : List Int, imms (ns.map D.int) = true
  | [] => rfl
  | n :: ns => by simp [imms_ints ns]
/-! primitives on numbers -/
@[simp] theorem e_pI (cc : Int → Int → Bool) (g : Int → Int → Int) (i j : Int) : pI cc g (.int i) (.int j) = if cc i j then some (.int (g i j)) else none := (rfl)
@[simp] theorem e_pIB (g : Int → Int → Bool) (i j : Int) : pIB g (.int i) (.int j) = some (.bl (g i j)) := (rfl)
@[simp] theorem e_neg (i : Int) : pNeg (.int i) = some (.int (-i)) := (rfl)
@[simp] theorem e_eq (i j : Int) : pEq (.int i) (.int j) = some (.bl (i == j)) := (rfl)
@[simp] theorem e_ne (i j : Int) : pNe (.int i) (.int j) = some (.bl (!(i == j))) := (rfl)
@[simp] theorem e_abs (i : Int) : pAbs [.int i] = some (.int (if i < 0 then -i else i)) := (rfl)
@[simp] theorem e_min2 (i j : Int) : pMin2 [.int i, .int j] = some (.int (if j < i then j else i)) := (rfl)
@[simp] theorem e_max2 (i j : Int) : pMax2 [.int i, .int j] = some (.int (if i < j then j else i)) := (rfl)
@[simp] theorem e_int1 (i : Int) : pInt1 [.int i] = some (.int i) := (rfl)
@[simp] theorem e_int2 (b : Bool) : pInt1 [.bl b] = some (.int (if b then 1 else 0)) := (rfl)
@[simp] theorem e_len1 (g : Fl) (ds : List D) : pLen [.lst g ds] = some (.int ds.length) := (rfl)
@[simp] theorem e_len2 (ds : List D) : pLen [.tup ds] = some (.int ds.length) := (rfl)
@[simp] theorem e_ix1 (g : Fl) (ds : List D) (i : Int) : ixD (.lst g ds) (.int i) = atI ds i := (rfl)
@[simp] theorem e_ix2 (ds : List D) (i : Int) : ixD (.tup ds) (.int i) = atI ds i := (rfl)
theorem atI_nat {α : Type} {xs : List α} {k : Nat} (h : k < xs.length) : atI xs (k : Int) = xs[k]? := by
  unfold atI ixN
  rw [if_pos (by omega), if_pos (by omega)]
  simp
@[simp] theorem atI_0 {α : Type} (x : α) (xs : List α) : atI (x :: xs) 0 = some x := by
  have := atI_nat (xs := x :: xs) (k := 0) (by simp); simpa using this
@[simp] theorem atI_1 {α : Type} (x y : α) (xs : List α) : atI (x :: y :: xs) 1 = some y := by
  have := atI_nat (xs := x :: y :: xs) (k := 1) (by simp); simpa using this
@[simp] theorem atI_2 {α : Type} (x y z : α) (xs : List α) : atI (x :: y :: z :: xs) 2 = some z := by
  have := atI_nat (xs := x :: y :: z :: xs) (k := 2) (by simp); simpa using this
@[simp] theorem atI_3 {α : Type} (x y z u : α) (xs : List α) : atI (x :: y :: z :: u :: xs) 3 = some u := by
  have := atI_nat (xs := x :: y :: z :: u :: xs) (k := 3) (by simp); simpa using this
@[simp] theorem atI_4 {α : Type} (x y z u v : α) (xs : List α) : atI (x :: y :: z :: u :: v :: xs) 4 = some v := by
  have := atI_nat (xs := x :: y :: z :: u :: v :: xs) (k := 4) (by simp); simpa using this
theorem sz_ok {n : Nat} (h : n ≤ 1000) : n ≤ sizeLine := Nat.le_of_lt (small1000 h)
@[simp] theorem sz_0 : 0 ≤ sizeLine := sz_ok (by decide)
@[simp] theorem sz_1 : 1 ≤ sizeLine := sz_ok (by decide)
@[simp] theorem sz_2 : 2 ≤ sizeLine := sz_ok (by decide)
@[simp] theorem sz_3 : 3 ≤ sizeLine := sz_ok (by decide)
@[simp] theorem sz_4 : 4 ≤ sizeLine := sz_ok (by decide)
@[simp] theorem sz_5 : 5 ≤ sizeLine := sz_ok (by decide)
@[simp] theorem sz_6 : 6 ≤ sizeLine := sz_ok (by decide)
@[simp] theorem e_isi_i (i : Int) : pIsi [.int i, .ty "int"] = some (.bl true) := (rfl)
@[simp] theorem e_isi_b (i : Int) : pIsi [.int i, .ty "bool"] = some (.bl false) := (rfl)
@[simp] theorem m01a (c : Prop) [Decidable c] : -18446744073709551616 < (if c then (1 : Int) else 0) := by split <;> omega
@[simp] theorem m01b (c : Prop) [Decidable c] : (if c then (1 : Int) else 0) < 18446744073709551616 := by split <;> omega
@[simp] theorem m2a (x : Int) : -18446744073709551616 < x % 40009 + 7 := by omega
@[simp] theorem m2b (x : Int) : x % 40009 + 7 < 18446744073709551616 := by omega
end
end VS

set_option maxRecDepth 100000
namespace VS
open PySem L2 SeqAt
/-! ### what a judgement says, as one reading -/
def tO (K : PySem.W.Frag) (mg : Str → Option Value) (W : WX) (M : List Nat) (c : CE) : TE := fun σ H Q => ∃ C fs env tf, C.K = K ∧ C.mg = mg ∧ Good C fs env σ H tf ∧ PostO W C M tf fs env σ H Q (c env)
def tT (K : PySem.W.Frag) (mg : Str → Option Value) (W : WX) (M : List Nat) (c : CT) : TT := fun σ H Q => ∃ C fs env tf, C.K = K ∧ C.mg = mg ∧ Good C fs env σ H tf ∧ PostT W C M tf fs env σ H Q (c env)
def tG (K : PySem.W.Frag) (mg : Str → Option Value) (M Vs : List Nat) (g : D → Env → Option Env) : TG := fun v σ H Q => ∃ C fs env tf d fp, C.K = K ∧ C.mg = mg ∧ Good C fs env σ H (fp ++ tf) ∧ Rep C H d v fp ∧ PostG C M Vs tf fs env σ H Q (g d env)
section
variable {X : Cx} {W : WX} {M M1 M2 M3 M4 V1 V2 V3 Rs R1 R2 R3 : List Nat} {e a b c tg : Expr} {es ifs : List Expr} {ca cb cc : CE} {cs src : CA} {ct : CT} {pos p : Pos} {g : D → Env → Option Env}
theorem SO.canon (h : SO X W M e ca) : PE X e (tO X.K X.mg W M ca) := by
  obtain ⟨t, p, q⟩ := h.go
  exact ⟨fun pins s σ H Q I ⟨C, fs, env, tf, h1, h2, G, po⟩ => p.run pins s σ H Q I (q C fs env σ H tf Q ⟨h1, h2⟩ G po)⟩
theorem SG.canon (h : SG X M V1 tg g) : PG X tg (tG X.K X.mg M V1 g) := by
  obtain ⟨t, p, q⟩ := h.go
  exact ⟨fun pins s σ H v u Q I r ⟨C, fs, env, tf, d, fp, h1, h2, G, rr, po⟩ => p.run pins s σ H v u Q I r (q C fs env σ H tf Q d v fp ⟨h1, h2⟩ G rr po)⟩
structure STs (X : Cx) (W : WX) (M : List Nat) (ifs : List Expr) (ct : CT) : Prop where
  go : PTs X ifs (tT X.K X.mg W M ct)
def cYes : CT := fun env => .ok true env
theorem sts_nil : STs X W [] [] cYes :=
  ⟨⟨fun pins s σ H Q I ⟨C, fs, env, tf, h1, h2, G, po⟩ => pts_nil.run pins s σ H Q I (po fs H G .refl)⟩⟩
theorem sts_one (h : ST X W M c ct) : STs X W M [c] ct := by
  obtain ⟨t, p, q⟩ := h.go
  exact ⟨⟨fun pins s σ H Q I ⟨C, fs, env, tf, h1, h2, G, po⟩ => (pts_one p).run pins s σ H Q I (q C fs env σ H tf Q ⟨h1, h2⟩ G po)⟩⟩

/-! ### slots forgotten for a while -/
def wipeE (env : Env) : List Nat → Env
  | [] => env
  | v :: vs => (wipeE env vs).set v none
def wipeF (fs : FPs) : List Nat → FPs
  | [] => fs
  | v :: vs => (wipeF fs vs).set v []
def backE (env1 env : Env) : List Nat → Env
  | [] => env
  | v :: vs => (backE env1 env vs).set v (env1.getD v none)
theorem wipe_get {σ : St} {i : Nat} : ∀ {vs : List Nat}, (wipe σ vs)[i]? = if i ∈ vs then (σ[i]?).map (fun _ => none) else σ[i]?
  | [] => by simp [wipe]
  | v :: vs => by
    unfold wipe
    rw [List.getElem?_set]
    by_cases hv : v = i
    · subst hv
      rw [if_pos rfl, wipe_length, if_pos (show v ∈ v :: vs by simp)]
      by_cases hl : v < σ.length
      · rw [if_pos hl]; simp [hl]
      · rw [if_neg hl, List.getElem?_eq_none (by omega)]; rfl
    · rw [if_neg hv, wipe_get (vs := vs)]
      have : (i ∈ v :: vs) ↔ i ∈ vs := by simp [Ne.symm hv]
      simp only [this]
theorem wipeE_get {σ : Env} {i : Nat} : ∀ {vs : List Nat}, (wipeE σ vs)[i]? = if i ∈ vs then (σ[i]?).map (fun _ => none) else σ[i]?
  | [] => by simp [wipeE]
  | v :: vs => by
    have hl : ∀ vs : List Nat, (wipeE σ vs).length = σ.length := fun vs => by
      induction vs with
      | nil => rfl
      | cons v vs ih => unfold wipeE; rw [List.length_set, ih]
    unfold wipeE
    rw [List.getElem?_set]
    by_cases hv : v = i
    · subst hv
      rw [if_pos rfl, hl, if_pos (show v ∈ v :: vs by simp)]
      by_cases hl : v < σ.length
      · rw [if_pos hl]; simp [hl]
      · rw [if_neg hl, List.getElem?_eq_none (by omega)]; rfl
    · rw [if_neg hv, wipeE_get (vs := vs)]
      have : (i ∈ v :: vs) ↔ i ∈ vs := by simp [Ne.symm hv]
      simp only [this]
theorem wipeE_len {σ : Env} : ∀ vs : List Nat, (wipeE σ vs).length = σ.length
  | [] => rfl
  | v :: vs => by unfold wipeE; rw [List.length_set, wipeE_len vs]
theorem wipeF_len {σ : FPs} : ∀ vs : List Nat, (wipeF σ vs).length = σ.length
  | [] => rfl
  | v :: vs => by unfold wipeF; rw [List.length_set, wipeF_len vs]
theorem backE_len {e1 σ : Env} : ∀ vs : List Nat, (backE e1 σ vs).length = σ.length
  | [] => rfl
  | v :: vs => by unfold backE; rw [List.length_set, backE_len vs]
theorem backE_get {e1 σ : Env} {i : Nat} : ∀ {vs : List Nat}, (backE e1 σ vs)[i]? = if i ∈ vs then (σ[i]?).map (fun _ => e1.getD i none) else σ[i]?
  | [] => by simp [backE]
  | v :: vs => by
    unfold backE
    rw [List.getElem?_set]
    by_cases hv : v = i
    · subst hv
      rw [if_pos rfl, backE_len, if_pos (show v ∈ v :: vs by simp)]
      by_cases hl : v < σ.length
      · rw [if_pos hl]; simp [hl]
      · rw [if_neg hl, List.getElem?_eq_none (by omega)]; rfl
    · rw [if_neg hv, backE_get (vs := vs)]
      have : (i ∈ v :: vs) ↔ i ∈ vs := by simp [Ne.symm hv]
      simp only [this]
theorem wipeF_get {fs : FPs} {i : Nat} : ∀ {vs : List Nat}, (wipeF fs vs).getD i [] = if i ∈ vs then [] else fs.getD i []
  | [] => by simp [wipeF]
  | v :: vs => by
    unfold wipeF
    by_cases hv : v = i
    · subst hv
      rw [if_pos (by simp), List.getD_eq_getElem?_getD, List.getElem?_set]
      rw [if_pos rfl]
      split <;> rfl
    · rw [List.getD_eq_getElem?_getD, List.getElem?_set, if_neg hv, ← List.getD_eq_getElem?_getD, wipeF_get (vs := vs)]
      have : (i ∈ v :: vs) ↔ i ∈ vs := by simp [Ne.symm hv]
      simp only [this]
theorem wipe_eq {σ3 σ : St} {vs : List Nat} (hl : σ3.length = σ.length) (h : ∀ i, i ∉ vs → σ3[i]? = (wipe σ vs)[i]?) : wipe σ3 vs = wipe σ vs := by
  refine List.ext_getElem? fun i => ?_
  by_cases hi : i ∈ vs
  · rw [wipe_get, wipe_get, if_pos hi, if_pos hi]
    by_cases h1 : i < σ.length
    · simp [h1, hl]
    · rw [List.getElem?_eq_none (by omega), List.getElem?_eq_none (by omega)]
  · have := h i hi
    rw [wipe_get, if_neg hi, this]
variable {pins : List (Addr × Obj)} {σ σ' : St} {H H1 H2 H' : Hp} {s : Shared} {C C' : Ctx} {fs fs1 fs2 : FPs} {env env1 env2 : Env} {tf tf' own : List Addr}
theorem Good.sig (G : Good C fs env σ H tf) (hl : σ'.length = σ.length) (h : ∀ (i : Nat) (d : D), env[i]? = some (some d) → σ'[i]? = σ[i]?) : Good C fs env σ' H tf :=
  ⟨by rw [hl]; exact G.le, by rw [hl]; exact G.lf, fun i d e => by rw [h i d e]; exact G.rep i d e, G.nd, G.own, G.trk, G.fr, G.lk⟩
theorem Good.wipeK (G : Good C fs env σ H tf) : ∀ vs : List Nat, Good C (wipeF fs vs) (wipeE env vs) σ H tf
  | [] => G
  | v :: vs => (G.wipeK vs).kill v
theorem Good.wipe (G : Good C fs env σ H tf) (vs : List Nat) : Good C (wipeF fs vs) (wipeE env vs) (wipe σ vs) H tf :=
  (G.wipeK vs).sig (wipe_length σ vs) fun i d e => by
    rw [wipeE_get] at e
    by_cases hi : i ∈ vs
    · rw [if_pos hi] at e
      cases h : env[i]? <;> rw [h] at e <;> simp at e
    · rw [wipe_get, if_neg hi]
theorem Step.wipe : ∀ vs : List Nat, Step vs tf fs env H (wipeF fs vs) (wipeE env vs) H := fun vs =>
  ⟨fun _ _ => rfl, fun i hi => by rw [wipeF_get, if_neg hi], fun i hi => by rw [wipeE_get, if_neg hi], fun _ _ _ _ => rfl, .refl H⟩
theorem Good.back {vs : List Nat} (G : Good C fs env (L2.wipe σ vs) H tf) (hr : ∀ i, i ∈ vs → ∀ d, env1[i]? = some (some d) → ∃ v, σ[i]? = some (some v) ∧ Rep C H d v []) : Good C (wipeF fs vs) (backE env1 env vs) σ H tf := by
  have Gw := G.wipeK vs
  refine ⟨?_, ?_, fun i d e => ?_, Gw.nd, Gw.own, Gw.trk, Gw.fr, Gw.lk⟩
  · rw [backE_len, G.le, wipe_length]
  · rw [wipeF_len, G.lf, wipe_length]
  · rw [backE_get] at e
    by_cases hi : i ∈ vs
    · rw [if_pos hi] at e
      obtain ⟨x, _, e2⟩ := Option.map_eq_some_iff.mp e
      have e3 : env1[i]? = some (some d) := by
        rw [List.getD_eq_getElem?_getD] at e2
        cases h : env1[i]? with
        | none => rw [h] at e2; cases e2
        | some y => rw [h] at e2; simp at e2; rw [e2]
      obtain ⟨v, h1, h2⟩ := hr i hi d e3
      exact ⟨v, h1, by rw [wipeF_get, if_pos hi]; exact h2⟩
    · rw [if_neg hi] at e
      obtain ⟨v, h1, h2⟩ := G.rep i d e
      rw [wipe_get, if_neg hi] at h1
      exact ⟨v, h1, by rw [wipeF_get, if_neg hi]; exact h2⟩
theorem mono_upd {q : Addr} {o o' : HO} (h : H q = some o) (mu : Mutb o) : Mono H (upd H q o') :=
  ⟨fun a xs e => by
    by_cases ha : a = q
    · subst ha; rw [h] at e; cases e; exact mu.elim
    · rw [upd_ne ha]; exact e, fun a o2 u e => by
    by_cases ha : a = q
    · subst ha; rw [h] at e; cases e; exact mu.elim
    · rw [upd_ne ha]; exact e⟩
/-- an object that is held beside is changed -/
theorem Good.updT {q : Addr} {o o' : HO} (G : Good C fs env σ H (q :: tf)) (h : H q = some o) (mu : Mutb o) (mu' : Mutb o') : Good C fs env σ (upd H q o') (q :: tf) := by
  have hn : ∀ i, q ∉ fs.getD i [] := fun i hi => G.apartT hi (by simp)
  refine ⟨G.le, G.lf, fun i d e => ?_, G.nd, G.own, fun a ha => ?_, fun a o2 e na => ?_, fun a ha => ?_⟩
  · obtain ⟨v, h1, h2⟩ := G.rep i d e
    exact ⟨v, h1, h2.keep (fun a ha => upd_ne fun z => hn i (z ▸ ha)) (mono_upd h mu)⟩
  · by_cases hq : a = q
    · subst hq; exact ⟨o', upd_same, mu'⟩
    · obtain ⟨o2, h1, h2⟩ := G.trk a ha; exact ⟨o2, by rw [upd_ne hq]; exact h1, h2⟩
  · have hq : a ≠ q := fun z => by
      subst z
      rcases G.own a (by simp) with z | z
      · exact na z
      · rw [z] at e; cases e
    rw [upd_ne hq]; exact G.fr a o2 e na
  · obtain ⟨ob, u, e⟩ := G.lk a ha
    have hq : a ≠ q := fun z => by subst z; rw [h] at e; cases e; exact mu
    exact ⟨ob, u, by rw [upd_ne hq]; exact e⟩
theorem Step.updT {q : Addr} {o o' : HO} (G : Good C fs env σ H (q :: tf)) (h : H q = some o) (mu : Mutb o) : Step [] tf fs env H fs env (upd H q o') := by
  have nd := (List.nodup_append.mp G.nd).2.1
  refine ⟨fun a ha => upd_ne fun z => ?_, fun _ _ => rfl, fun _ _ => rfl, fun i _ a ha => upd_ne fun z => G.apartT (z ▸ ha) (by simp), mono_upd h mu⟩
  subst z
  exact (List.nodup_cons.mp nd).1 ha

/-! ### [e for x in xs if t] -/
def lcRun (vs : List Nat) (g : D → Env → Option Env) (ct : CT) (ce : CE) : List D → Env → Option (List D × Env)
  | [], env => some ([], env)
  | d :: ds, env => match g d env with
    | none => none
    | some env1 => if env1.length = env.length then (match ct env1 with
      | .ok true env2 => (match ce env2 with
        | .ok y env3 => (lcRun vs g ct ce ds (wipeE env3 vs)).map fun r => (y :: r.1, r.2)
        | _ => none)
      | .ok false env2 => lcRun vs g ct ce ds (wipeE env2 vs)
      | _ => none) else none
def clearE (env : Env) (vs : List Nat) : Bool := vs.all fun i => match env[i]? with
  | some (some d) => d.imm
  | _ => true
def cLc (src : CA) (vs : List Nat) (g : D → Env → Option Env) (ct : CT) (ce : CE) : CE := fun env => (src env).bind fun ds env1 =>
  if clearE env1 vs = true ∧ ds.length ≤ sizeLine then (match lcRun vs g ct ce ds (wipeE env1 vs) with
    | some r => .ok (.lst .m r.1) (backE env1 r.2 vs)
    | none => .err) else .err
abbrev W0 : WX := fun _ _ _ _ => False
theorem lc_go {ce : CE} {vs : List Nat} {t : TI} (q : ∀ C fs env σ H tf Q, C.At X → Good C fs env σ H tf → PostI W C M1 R1 tf fs env σ H Q (src env) → t σ H Q) (hd : djB R1 (vs ++ (M2 ++ (M3 ++ M4))) = true) (hV : (V2.all fun i => vs.contains i) = true) :
    ∀ C fs env σ H tf Q, C.At X → Good C fs env σ H tf → PostO W C (M1 ++ (vs ++ (M2 ++ (M3 ++ M4)))) tf fs env σ H Q (cLc src vs g ct ce env) → tLc t (tG X.K X.mg M2 V2 g) (tT X.K X.mg W0 M3 ct) (tO X.K X.mg W0 M4 ce) vs σ H Q := by
  intro C fs env σ H tf Q hC G po
  show t σ H fun J H1 => _
  refine q C fs env σ H tf _ hC G ?_
  unfold cLc at po
  cases e1 : src env with
  | err => rw [e1] at po; exact po
  | ex x env' => rw [e1] at po; exact fun cv dd fs' H' G' s => po cv dd fs' H' G' (s.weak mem_l fun _ z => z)
  | ok ds env1 =>
    rw [e1] at po
    intro J fs1 H1 fp own1 G1 s1 src1 i1 Dd hD
    have po1 : PostO W C (M1 ++ (vs ++ (M2 ++ (M3 ++ M4)))) tf fs env σ H Q (if clearE env1 vs = true ∧ ds.length ≤ sizeLine then (match lcRun vs g ct ce ds (wipeE env1 vs) with
      | some r => .ok (.lst .m r.1) (backE env1 r.2 vs)
      | none => .err) else .err) := po
    by_cases hcl : clearE env1 vs = true ∧ ds.length ≤ sizeLine
    case neg => rw [if_neg hcl] at po1; exact po1.elim
    rw [if_pos hcl] at po1
    cases el : lcRun vs g ct ce ds (wipeE env1 vs) with
    | none => rw [el] at po1; exact po1.elim
    | some r =>
      rw [el] at po1
      obtain ⟨all, envF⟩ := r
      have po2 := PostO.step s1 po1
      have dj := djB_ok hd
      have le := Le.new (o := .lst []) hD
      have hb : ∀ i ∈ vs, ∀ d, env1[i]? = some (some d) → ∃ v, σ[i]? = some (some v) ∧ Rep C H1 d v [] := fun i hi d e => by
        obtain ⟨v, h1, h2⟩ := G1.rep i d e
        have := (List.all_eq_true.mp hcl.1) i hi
        rw [e] at this
        have z := h2.imm this
        rw [z] at h2
        exact ⟨v, h1, h2⟩
      have sub : ∀ x ∈ own1 ++ tf, x ∈ Dd :: (own1 ++ tf) := fun x hx => List.mem_cons_of_mem _ hx
      refine lc_it (n := ds.length) src1.walk (fun i H' => ∃ fs' env' acc fpa ys ys', Good C fs' env' (wipe σ vs) H' (Dd :: (fpa ++ (own1 ++ tf))) ∧ H' Dd = some (.lst acc) ∧ Reps C H' ys acc fpa ∧ acc.length ≤ i ∧ Step (vs ++ (M2 ++ (M3 ++ M4))) (own1 ++ tf) fs1 env1 H1 fs' env' H' ∧ lcRun vs g ct ce (ds.drop i) env' = some (ys', envF) ∧ all = ys ++ ys')
        ⟨wipeF fs1 vs, wipeE env1 vs, [], [], [], all, (G1.new (o := .lst []) hD trivial).wipe vs, upd_same, ⟨rfl, rfl⟩, Nat.le_refl _, ?_, by simpa using el, rfl⟩ ?_ ?_ ?_
      · have := (Step.grow (M := []) G1 le).trans (Step.wipe (fs := fs1) (env := env1) (tf := own1 ++ tf) (H := upd H1 Dd (.lst [])) vs)
        exact this.weak (fun i hi => List.mem_append_left _ (by simpa using hi)) fun _ z => z
      · rintro i H' hi ⟨fs', env', acc, fpa, ys, ys', G', hD', rs, hl, s', _, _⟩
        exact ⟨G'.fr, s'.m, i1.keep s' dj⟩
      · rintro i x H' H2 hi ⟨fs', env', acc, fpa, ys, ys', G', hD', rs, hl, s', hrun, hall⟩ ⟨le2, d, hd', rd⟩
        have hdrop : ds.drop i = d :: ds.drop (i + 1) := by
          rw [List.drop_eq_getElem_cons hi]
          obtain ⟨_, h⟩ := List.getElem?_eq_some_iff.mp hd'
          rw [h]
        rw [hdrop] at hrun
        unfold lcRun at hrun
        have G2 := G'.le' le2
        have sA := s'.trans (Step.grow (M := []) (G'.sub (tf' := own1 ++ tf) ((List.sublist_append_right _ _).trans (List.sublist_cons_self _ _))) le2)
        refine ⟨C, fs', env', Dd :: (fpa ++ (own1 ++ tf)), d, [], hC.1, hC.2, G2, rd, ?_⟩
        cases eg : g d env' with
        | none => rw [eg] at hrun; cases hrun
        | some e2 =>
          rw [eg] at hrun
          simp only at hrun
          by_cases hlen : e2.length = env'.length
          case neg => rw [if_neg hlen] at hrun; cases hrun
          rw [if_pos hlen] at hrun
          intro fs3 σ3 H3 G3 s3
          have hw : wipe σ3 vs = wipe σ vs := by
            refine wipe_eq ?_ fun j hj => s3.v j fun hj2 => hj ?_
            · rw [← G3.le, hlen, G2.le, wipe_length]
            · have := (List.all_eq_true.mp hV) j hj2
              simpa using this
          refine ⟨hw, C, fs3, e2, Dd :: (fpa ++ (own1 ++ tf)), hC.1, hC.2, G3, ?_⟩
          have sB := sA.trans (s3.s.weak (fun _ z => z) (tf' := own1 ++ tf) fun y hy => List.mem_cons_of_mem _ (List.mem_append_right _ hy))
          -- the turn's end
          have fin : ∀ {fs5 : FPs} {e5 : Env} {H5 : Hp} {acc' fpa' ys1 ys2}, Good C fs5 e5 σ3 H5 (Dd :: (fpa' ++ (own1 ++ tf))) → H5 Dd = some (.lst acc') → Reps C H5 ys1 acc' fpa' → acc'.length ≤ i + 1 → Step (M3 ++ M4) (own1 ++ tf) fs3 e2 H3 fs5 e5 H5 → lcRun vs g ct ce (ds.drop (i + 1)) (wipeE e5 vs) = some (ys2, envF) → all = ys1 ++ ys2 →
              ∃ fs' env' acc fpa ys ys', Good C fs' env' (wipe σ vs) H5 (Dd :: (fpa ++ (own1 ++ tf))) ∧ H5 Dd = some (.lst acc) ∧ Reps C H5 ys acc fpa ∧ acc.length ≤ i + 1 ∧ Step (vs ++ (M2 ++ (M3 ++ M4))) (own1 ++ tf) fs1 env1 H1 fs' env' H5 ∧ lcRun vs g ct ce (ds.drop (i + 1)) env' = some (ys', envF) ∧ all = ys ++ ys' := fun {fs5 e5 H5 acc' fpa' ys1 ys2} G5 h5 r5 l5 s5 h6 h7 => by
            have Gw := G5.wipe vs
            rw [hw] at Gw
            refine ⟨_, _, acc', fpa', ys1, ys2, Gw, h5, r5, l5, ?_, h6, h7⟩
            have := (sB.trans s5).trans (Step.wipe (fs := fs5) (env := e5) (tf := own1 ++ tf) (H := H5) vs)
            refine this.weak (fun j hj => ?_) fun _ z => z
            simp only [List.mem_append, List.not_mem_nil, or_false] at hj ⊢
            rcases hj with ((h | h) | h) | h
            · exact h
            · exact .inr (.inl h)
            · exact .inr (.inr h)
            · exact .inl h
          have r3 : Reps C H3 ys acc fpa := (rs.le le2).keep (fun a ha => s3.s.t a (by simp [ha])) s3.s.m
          have hD3 : H3 Dd = some (.lst acc) := by rw [s3.s.t Dd (by simp)]; exact le2 _ _ hD'
          cases et : ct e2 with
          | err => rw [et] at hrun; cases hrun
          | ex x e3 => rw [et] at hrun; cases hrun
          | ok b e3 =>
            rw [et] at hrun
            intro fs4 H4 G4 s4
            have r4 : Reps C H4 ys acc fpa := r3.keep (fun a ha => s4.t a (by simp [ha])) s4.m
            have hD4 : H4 Dd = some (.lst acc) := by rw [s4.t Dd (by simp)]; exact hD3
            have s4' := s4.weak (fun _ z => z) (tf' := own1 ++ tf) fun y hy => List.mem_cons_of_mem _ (List.mem_append_right _ hy)
            cases b with
            | false =>
              rw [if_neg (by simp)]
              exact fin G4 hD4 r4 (by omega) (s4'.weak mem_l fun _ z => z) hrun hall
            | true =>
              rw [if_pos rfl]
              refine ⟨C, fs4, e3, Dd :: (fpa ++ (own1 ++ tf)), hC.1, hC.2, G4, ?_⟩
              simp only at hrun
              cases ee : ce e3 with
              | err => rw [ee] at hrun; cases hrun
              | ex x e4 => rw [ee] at hrun; cases hrun
              | ok y e4 =>
                rw [ee] at hrun
                obtain ⟨⟨zs, eF⟩, h1, h2⟩ := Option.map_eq_some_iff.mp hrun
                cases h2
                intro v fs5 H5 fp5 G5 s5 r5
                have hD5 : H5 Dd = some (.lst acc) := by rw [s5.t Dd (by simp)]; exact hD4
                have ra : Reps C H5 ys acc fpa := r4.keep (fun a ha => s5.t a (by simp [ha])) s5.m
                have pm : (Dd :: ((fpa ++ fp5) ++ (own1 ++ tf))).Perm (fp5 ++ (Dd :: (fpa ++ (own1 ++ tf)))) := by
                  refine List.Perm.trans (List.Perm.cons _ ?_) (List.perm_middle.symm)
                  rw [List.append_assoc]
                  exact List.perm_append_comm_assoc _ _ _
                have G6 := G5.perm pm
                have nd6 := (List.nodup_append.mp G6.nd).2.1
                have hnot : Dd ∉ fpa ++ fp5 := fun z => (List.nodup_cons.mp nd6).1 (List.mem_append_left _ z)
                refine ⟨acc, hD5, by have := hcl.2; omega, ?_⟩
                have mo := mono_upd (o' := .lst (acc ++ [v])) hD5 trivial
                have kp : ∀ a ∈ fpa ++ fp5, (upd H5 Dd (.lst (acc ++ [v]))) a = H5 a := fun a ha => upd_ne fun z => hnot (z ▸ ha)
                have G7 := G6.updT (o' := .lst (acc ++ [v])) hD5 trivial trivial
                refine fin (ys1 := ys ++ [y]) (ys2 := zs) G7 upd_same (reps_append (ra.keep (fun a ha => kp a (List.mem_append_left _ ha)) mo) ⟨v, [], fp5, [], rfl, r5.keep (fun a ha => kp a (List.mem_append_right _ ha)) mo, ⟨rfl, rfl⟩, by simp⟩) (by simp; omega) ?_ h1 (by rw [hall]; simp)
                have s5' := s5.weak (fun _ z => z) (tf' := own1 ++ tf) fun y hy => List.mem_cons_of_mem _ (List.mem_append_right _ hy)
                have s6 := Step.updT (o' := .lst (acc ++ [v])) G6 hD5 trivial
                have s6' := s6.weak (fun _ z => z) (tf' := own1 ++ tf) fun y hy => List.mem_append_right _ hy
                have := (s4'.trans s5').trans s6'
                simpa using this
      · rintro H' ⟨fs', env', acc, fpa, ys, ys', G', hD', rs, hl, s', hrun, hall⟩
        rw [List.drop_length] at hrun
        unfold lcRun at hrun
        cases hrun
        rw [List.append_nil] at hall
        subst hall
        have Gb := G'.back (env1 := env1) fun i hi d e => by
          obtain ⟨v, h1, h2⟩ := hb i hi d e
          exact ⟨v, h1, h2.keep (fun _ z => nomatch z) s'.m⟩
        refine po2 (.ref Dd) _ H' (Dd :: fpa) (Gb.sub ?_) ?_ ⟨Dd, acc, [Dd], fpa, rfl, ⟨hD', rfl⟩, rs, .inl rfl, rfl⟩
        · refine List.Sublist.cons₂ _ ?_
          exact (List.Sublist.refl fpa).append (List.sublist_append_right _ _)
        · have sb : Step vs (own1 ++ tf) fs' envF H' (wipeF fs' vs) (backE env1 envF vs) H' :=
            ⟨fun _ _ => rfl, fun i hi => by rw [wipeF_get, if_neg hi], fun i hi => by rw [backE_get, if_neg hi], fun _ _ _ _ => rfl, .refl H'⟩
          refine (s'.trans sb).weak (fun j hj => ?_) fun y hy => List.mem_append_right _ hy
          simp only [List.mem_append] at hj ⊢
          rcases hj with (h | h) | h
          · exact .inl h
          · exact .inr h
          · exact .inl h
theorem so_lc {scope : Scope} {own : List (Str × Nat)} (vs : List Nat) {iter elt : Expr} {ce : CE} (hc : X.calm = true) (hN : X.N.Nodup) (hi : SI X W M1 R1 tg iter src) (ok : BlkOk X.N X.env.scope scope own)
    (hg : ∀ (s : Shared) (H : Hp) (B : Addr) (cl : List (Str × Addr)) (fp : List Addr), SG (X.blk s H scope (compEnvC scope cl B X.env) fp) M2 V2 tg g)
    (ht : ∀ (s : Shared) (H : Hp) (B : Addr) (cl : List (Str × Addr)) (fp : List Addr), STs (X.blk s H scope (compEnvC scope cl B X.env) fp) W0 M3 ifs ct)
    (he : ∀ (s : Shared) (H : Hp) (B : Addr) (cl : List (Str × Addr)) (fp : List Addr), SO (X.blk s H scope (compEnvC scope cl B X.env) fp) W0 M4 elt ce)
    (hvs : own.map (·.2) = vs) (hd : djB R1 (vs ++ (M2 ++ (M3 ++ M4))) = true) (hV : (V2.all fun i => vs.contains i) = true) (hs : ∀ x, foldedSetIterable iter X.env x = pure x) :
    SO X W (M1 ++ (vs ++ (M2 ++ (M3 ++ M4)))) (.ListComp elt [⟨tg, iter, ifs, 0⟩] scope pos) (cLc src vs g ct ce) := by
  subst hvs
  obtain ⟨t, p, q⟩ := hi.go
  exact ⟨tLc t (tG X.K X.mg M2 V2 g) (tT X.K X.mg W0 M3 ct) (tO X.K X.mg W0 M4 ce) (own.map (·.2)), pe_lc (own := own) hc hN p ok (fun s H B cl fp => (hg s H B cl fp).canon) (fun s H B cl fp => (ht s H B cl fp).go) (fun s H B cl fp => (he s H B cl fp).canon) hs, lc_go q hd hV⟩
theorem ss_setLc {scope : Scope} {own : List (Str × Nat)} (vs : List Nat) {i : Nat} {y : Str} {py spos : Pos} {iter elt : Expr} {ce : CE} (hc : X.calm = true) (hN : X.N.Nodup) (hi : SI X W M1 R1 tg iter src) (ok : BlkOk X.N X.env.scope scope own)
    (hg : ∀ (s : Shared) (H : Hp) (B : Addr) (cl : List (Str × Addr)) (fp : List Addr), SG (X.blk s H scope (compEnvC scope cl B X.env) fp) M2 V2 tg g)
    (ht : ∀ (s : Shared) (H : Hp) (B : Addr) (cl : List (Str × Addr)) (fp : List Addr), STs (X.blk s H scope (compEnvC scope cl B X.env) fp) W0 M3 ifs ct)
    (he : ∀ (s : Shared) (H : Hp) (B : Addr) (cl : List (Str × Addr)) (fp : List Addr), SO (X.blk s H scope (compEnvC scope cl B X.env) fp) W0 M4 elt ce)
    (hvs : own.map (·.2) = vs) (hd : djB R1 (vs ++ (M2 ++ (M3 ++ M4))) = true) (hV : (V2.all fun i => vs.contains i) = true) (hs : ∀ x, foldedSetIterable iter X.env x = pure x)
    (hy : X.N[i]? = some y) (hyl : X.env.scope.names.lookup y = some .local) (hsw : swapsWith (.ListComp elt [⟨tg, iter, ifs, 0⟩] scope pos) (some (.Name y py)) spos.line X.env = pure true) :
    SS X W ((M1 ++ (vs ++ (M2 ++ (M3 ++ M4)))) ++ [i]) [i] (.Assign [.Name y py] (.ListComp elt [⟨tg, iter, ifs, 0⟩] scope pos) spos) (sAsg (cLc src vs g ct ce) (gSet i)) := by
  subst hvs
  obtain ⟨t, p, q⟩ := hi.go
  refine ⟨tAsg (tLc t (tG X.K X.mg M2 V2 g) (tT X.K X.mg W0 M3 ct) (tO X.K X.mg W0 M4 ce) (own.map (·.2))) (gName i), ps_setLc (own := own) hc hN hy hyl hsw p ok (fun s H B cl fp => (hg s H B cl fp).canon) (fun s H B cl fp => (ht s H B cl fp).go) (fun s H B cl fp => (he s H B cl fp).canon) hs, fun C fs env σ H tf E hC G po => ?_⟩
  exact asg_go (gd := gSet i) (M2 := [i]) (V2 := [i]) hC G (lc_go q hd hV) (fun C fs env σ H tf Q d v fp hC G r po => po _ _ _ (G.put r) (StepS.put G)) po
end
end VS

set_option maxRecDepth 100000
namespace VS
open PySem L2 SeqAt
section
variable {X : Cx} {W : WX} {M M1 M2 M3 M4 V1 V2 V3 Rs R1 R2 R3 : List Nat} {e a b c tg : Expr} {es ifs : List Expr} {ca cb cc : CE} {cs src : CA} {ct : CT} {pos p : Pos} {g : D → Env → Option Env}
variable {pins : List (Addr × Obj)} {σ σ' : St} {H H1 H2 H' : Hp} {s : Shared} {C C' : Ctx}
/-- a new list of what may be shared -/
theorem Comes.lst {ds : List D} {vs : List V} {f : List Addr} {Q : VK} (k : Comes C H (.lst .m ds) Q) (r : Reps C H ds vs f) (hi : imms ds = true) {l : Addr} (hl : H l = none) : Q (.ref l) (upd H l (.lst vs)) := by
  have e := r.imm hi
  subst e
  have le := Le.new (o := .lst vs) hl
  exact k (.ref l) _ [l] le ⟨l, vs, [l], [], rfl, ⟨upd_same, rfl⟩, r.le le, .inl rfl, rfl⟩ (by simp) fun a ha => by simp at ha; subst ha; exact hl
theorem Comes.tup {ds : List D} {vs : List V} {f : List Addr} {Q : VK} (k : Comes C H (.tup ds) Q) (r : Reps C H ds vs f) (hi : imms ds = true) {l : Addr} (hl : H l = none) : Q (.ref l) (upd H l (.tup vs)) := by
  have e := r.imm hi
  subst e
  have le := Le.new (o := .tup vs) hl
  exact k (.ref l) _ [] le ⟨l, vs, rfl, SqT.of upd_same, r.le le⟩ .nil fun _ z => nomatch z
theorem imms_append : ∀ {ds es : List D}, imms (ds ++ es) = (imms ds && imms es)
  | [], es => by simp [imms]
  | d :: ds, es => by rw [List.cons_append, imms, imms, imms_append, Bool.and_assoc]

/-! ### list(x), tuple(x) -/
def pList : List D → Option D
  | [.lst _ ds] => if imms ds then some (.lst .m ds) else none
  | [.tup ds] => if imms ds then some (.lst .m ds) else none
  | _ => none
theorem od_list : ODL X (.type "list") pList := by
  refine ODL.of call_list_of fun xs H Q ⟨C, ds, fx, d, hC, hF, rs, e, k⟩ => ?_
  unfold pList at e
  split at e
  · rename_i g zs
    split at e <;> cases e
    rename_i hi
    obtain ⟨v, rfl, r⟩ := reps1 rs
    obtain ⟨a, vs, f, rfl, q, rz⟩ := rep_list hC hF r
    exact ⟨a, vs, rfl, .inl q, fun l hl => k.lst rz hi hl⟩
  · rename_i zs
    split at e <;> cases e
    rename_i hi
    obtain ⟨v, rfl, r⟩ := reps1 rs
    obtain ⟨a, vs, rfl, q, rz⟩ := rep_tup hC r
    exact ⟨a, vs, rfl, .inr q, fun l hl => k.lst rz hi hl⟩
  · cases e
def pTuple : List D → Option D
  | [.lst _ ds] => if imms ds then some (.tup ds) else none
  | [.tup ds] => if imms ds then some (.tup ds) else none
  | _ => none
theorem od_tuple : ODL X (.type "tuple") pTuple := by
  refine ODL.of call_tuple_of fun xs H Q ⟨C, ds, fx, d, hC, hF, rs, e, k⟩ => ?_
  unfold pTuple at e
  split at e
  · rename_i g zs
    split at e <;> cases e
    rename_i hi
    obtain ⟨v, rfl, r⟩ := reps1 rs
    obtain ⟨a, vs, f, rfl, q, rz⟩ := rep_list hC hF r
    exact ⟨a, vs, rfl, .inl ⟨q, fun l hl => k.tup rz hi hl⟩⟩
  · rename_i zs
    split at e <;> cases e
    rename_i hi
    obtain ⟨v, rfl, r⟩ := reps1 rs
    obtain ⟨a, vs, rfl, q, rz⟩ := rep_tup hC r
    have ez := rz.imm hi
    subst ez
    exact ⟨a, vs, rfl, .inr ⟨q, k.here ⟨a, vs, rfl, by rw [hC.1]; exact q, rz⟩⟩⟩
  · cases e

/-! ### x + y of lists, tuples, texts -/
theorem add_meets (l : Addr) (items : Array Value) (n : Nat) (b : Addr) (items2 : Array Value) (n2 : Nat) (sl sl2 : Array (Option Value)) (hc0 : items.size + items2.size ≤ sizeLine) :
    Meets (Builtin.«list.__add__» ⟨[.ref l, .ref b], []⟩) (fun _ R s => s.heap.get? l = some { cls := .type "list", dict := none, data := .seq items n, slots := sl } ∧ s.heap.get? b = some { cls := .type "list", dict := none, data := .seq items2 n2, slots := sl2 } ∧ R (.ok (.ret (Value.ref s.heap.objs.size))) { s with heap := s.heap.push { cls := Value.type "list", data := Data.seq (items ++ items2) }, toks := s.toks }) :=
  .of_wp fun prog w A R s h => by obtain ⟨hp, g, d, tk, os⟩ := s; obtain ⟨hl, hb, h⟩ := h; have f3 := PySem.AutoSeq1.sub_list_list; wp_walk using PySem.AutoSeq1.wpAny_loadPart' hl, PySem.AutoSeq1.wpAny_loadPart' hb; exact ⟨_, rfl, h⟩
theorem add_listP {prog : Program} {w : World} {A : Around} {E : Value → Shared → Prop} {s : Shared} {l b : Addr} {items items2 : Array Value} {Q : Value → Shared → Prop} (hl : PlainL s.heap l items) (hb : PlainL s.heap b items2)
    (h : Q (.ref s.heap.objs.size) { s with heap := s.heap.push { cls := .type "list", data := .seq (items ++ items2) } }) (hsz : items.size + items2.size ≤ sizeLine) : wpAny (model prog w) A (binaryOp .Add (.ref l) (.ref b)) Q E s := by
  obtain ⟨⟨c1, d1, da1, sl1⟩, n1, e1, a1, a2, a3⟩ := hl
  obtain ⟨⟨c2, d2, da2, sl2⟩, n2, e2, b1, b2, b3⟩ := hb
  simp only at a1 a2 a3 b1 b2 b3
  subst a1 a2 a3 b1 b2 b3
  exact PySem.concat_meets ⟨_, e1, rfl⟩ ⟨_, e2, rfl⟩ noFill_list_add seq_list_add F.slot_list_add F.entry_list_add (F.args_list_add_2 _ _) (add_meets l items n1 b items2 n2 sl1 sl2 hsz) ⟨e1, e2, h⟩
def pCatL : D → D → Option D
  | .lst _ xs, .lst _ ys => if imms xs && imms ys && decide (xs.length + ys.length ≤ sizeLine) then some (.lst .m (xs ++ ys)) else none
  | _, _ => none
theorem od_catL : OD2 X (binaryOp .Add) pCatL := by
  intro pins s σ H x y v u Q I rx ry ⟨C, dx, dy, fx, fy, d, hC, hF, r1, r2, e, k⟩
  unfold pCatL at e
  split at e
  · rename_i g xs g' ys
    split at e <;> cases e
    rename_i hi
    simp only [Bool.and_eq_true, decide_eq_true_eq] at hi
    obtain ⟨⟨h1, h2⟩, h3⟩ := hi
    obtain ⟨a, vs, f, rfl, q, rz⟩ := rep_list hC hF r1
    obtain ⟨b, ws, f', rfl, q', rz'⟩ := rep_list hC hF r2
    cases rx
    cases ry
    obtain ⟨its, r, pl, hz⟩ := I.list q
    obtain ⟨its2, r', pl2, hz2⟩ := I.list q'
    have l1 := reps_length rz
    have l2 := reps_length rz'
    have m1 := r.length
    have m2 := r'.length
    refine add_listP pl pl2 ?_ (by rw [List.size_toArray, List.size_toArray]; omega)
    have ea : its.toArray ++ its2.toArray = (its ++ its2).toArray := by simp
    rw [ea]
    exact ⟨.ref _, _, I.lnew (t' := s.toks) (r.append r') (by rw [List.length_append]; omega), rfl, k.lst (reps_append rz rz') (by rw [imms_append, h1, h2]; rfl) I.fresh⟩
  · cases e
end
end VS

set_option maxRecDepth 100000
namespace VS
open PySem L2 SeqAt
section
variable {X : Cx} {W : WX} {M M1 M2 M3 M4 V1 V2 V3 Rs R1 R2 R3 : List Nat} {e a b c tg : Expr} {es ifs : List Expr} {ca cb cc : CE} {cs src : CA} {ct : CT} {pos p : Pos} {g : D → Env → Option Env}
variable {pins : List (Addr × Obj)} {σ σ' : St} {H H1 H2 H' : Hp} {s : Shared} {C C' : Ctx}
def pCatT : D → D → Option D
  | .tup xs, .tup ys => if imms xs && imms ys && decide (xs.length + ys.length ≤ sizeLine) then some (.tup (xs ++ ys)) else none
  | _, _ => none
theorem od_catT : OD2 X (binaryOp .Add) pCatT := by
  refine OD2.of op_catA fun x y H Q ⟨C, dx, dy, fx, fy, d, hC, hF, r1, r2, e, k⟩ => ?_
  unfold pCatT at e
  split at e
  · rename_i xs ys
    split at e <;> cases e
    rename_i hi
    simp only [Bool.and_eq_true, decide_eq_true_eq] at hi
    obtain ⟨⟨h1, h2⟩, h3⟩ := hi
    obtain ⟨a, vs, rfl, q, rz⟩ := rep_tup hC r1
    obtain ⟨b, ws, rfl, q', rz'⟩ := rep_tup hC r2
    have l1 := reps_length rz
    have l2 := reps_length rz'
    have ez := rz.imm h1
    have ez' := rz'.imm h2
    subst ez ez'
    refine ⟨a, b, vs, ws, rfl, rfl, q, q', by omega, fun e0 => ?_, fun e0 e1 => ?_, fun e0 e1 p hp => k.tup (reps_append rz rz') (by rw [imms_append, h1, h2]; rfl) hp⟩
    · subst e0
      cases xs with
      | nil => exact k.here ⟨b, ws, rfl, by rw [hC.1]; exact q', rz'⟩
      | cons x xs => simp at l1
    · subst e1
      cases ys with
      | nil => rw [List.append_nil] at k; exact k.here ⟨a, vs, rfl, by rw [hC.1]; exact q, rz⟩
      | cons x xs => simp at l2
  · cases e
def pCatS : D → D → Option D
  | .str x, .str y => if x.length + y.length ≤ sizeLine then some (.str (x ++ y)) else none
  | _, _ => none
theorem od_catS : OD2 X (binaryOp .Add) pCatS := by
  refine OD2.of op_add_str fun x y H Q ⟨C, dx, dy, fx, fy, d, hC, hF, r1, r2, e, k⟩ => ?_
  unfold pCatS at e
  split at e
  · split at e <;> cases e
    rename_i hz
    obtain ⟨rfl, _⟩ := r1
    obtain ⟨rfl, _⟩ := r2
    exact ⟨_, _, rfl, rfl, hz, k.here ⟨rfl, rfl⟩⟩
  · cases e
def pAdd : D → D → Option D := orP2 pAddI (orP2 pCatL (orP2 pCatT pCatS))
theorem od_add : OD2 X (binaryOp .Add) pAdd := OD2.or od_addI (OD2.or od_catL (OD2.or od_catT od_catS))

/-! ### lists of one kind -/
def bls : List D → Option (List Bool)
  | [] => some []
  | .bl b :: ds => (bls ds).map (b :: ·)
  | _ => none
def intsD : List D → Option (List Int)
  | [] => some []
  | .int b :: ds => (intsD ds).map (b :: ·)
  | _ => none
def strsD : List D → Option (List Str)
  | [] => some []
  | .str b :: ds => (strsD ds).map (b :: ·)
  | _ => none
theorem bls_rep : ∀ {ds : List D} {bs : List Bool} {vs : List V} {f : List Addr}, bls ds = some bs → Reps C H ds vs f → vs = bs.map V.bl
  | [], bs, vs, f, h, r => by cases h; exact r.1
  | d :: ds, bs, vs, f, h, ⟨v, vs', f1, f2, e, r, rs, _⟩ => by
    cases d <;> simp only [bls] at h <;> try cases h
    obtain ⟨bs', h1, rfl⟩ := Option.map_eq_some_iff.mp h
    rw [e, bls_rep h1 rs, r.1]; rfl
theorem ints_rep : ∀ {ds : List D} {bs : List Int} {vs : List V} {f : List Addr}, intsD ds = some bs → Reps C H ds vs f → vs = bs.map V.int
  | [], bs, vs, f, h, r => by cases h; exact r.1
  | d :: ds, bs, vs, f, h, ⟨v, vs', f1, f2, e, r, rs, _⟩ => by
    cases d <;> simp only [intsD] at h <;> try cases h
    obtain ⟨bs', h1, rfl⟩ := Option.map_eq_some_iff.mp h
    rw [e, ints_rep h1 rs, r.1]; rfl
theorem strs_rep : ∀ {ds : List D} {bs : List Str} {vs : List V} {f : List Addr}, strsD ds = some bs → Reps C H ds vs f → vs = bs.map V.str
  | [], bs, vs, f, h, r => by cases h; exact r.1
  | d :: ds, bs, vs, f, h, ⟨v, vs', f1, f2, e, r, rs, _⟩ => by
    cases d <;> simp only [strsD] at h <;> try cases h
    obtain ⟨bs', h1, rfl⟩ := Option.map_eq_some_iff.mp h
    rw [e, strs_rep h1 rs, r.1]; rfl
@[simp] theorem intsD_ints : ∀ ns : List Int, intsD (ns.map D.int) = some ns
  | [] => rfl
  | n :: ns => by simp [intsD, intsD_ints ns]
@[simp] theorem bls_bls : ∀ ns : List Bool, bls (ns.map D.bl) = some ns
  | [] => rfl
  | n :: ns => by simp [bls, bls_bls ns]
@[simp] theorem strsD_strs : ∀ ns : List Str, strsD (ns.map D.str) = some ns
  | [] => rfl
  | n :: ns => by simp [strsD, strsD_strs ns]
theorem reps_strs {C : Ctx} {H : Hp} : ∀ ns : List Str, Reps C H (ns.map D.str) (ns.map V.str) []
  | [] => ⟨rfl, rfl⟩
  | n :: ns => ⟨.str n, ns.map V.str, [], [], rfl, ⟨rfl, rfl⟩, reps_strs ns, rfl⟩
@[simp] theorem imms_strs : ∀ ns : List Str, imms (ns.map D.str) = true
  | [] => rfl
  | n :: ns => by simp [imms_strs ns]

/-! ### all, any, sum, sorted -/
def pAll : List D → Option D
  | [.lst _ ds] => (bls ds).map fun bs => .bl (bs.all id)
  | _ => none
def pAny : List D → Option D
  | [.lst _ ds] => (bls ds).map fun bs => .bl (bs.any id)
  | _ => none
def pSum : List D → Option D
  | [.lst _ ds] => (intsD ds).map fun bs => .int bs.sum
  | _ => none
def sortI (ns : List Int) : List Int := ns.mergeSort fun a b => decide (a ≤ b)
def pSortedI : List D → Option D
  | [.lst _ ds] => (intsD ds).map fun bs => .lst .m ((sortI bs).map D.int)
  | _ => none
theorem od_all (hc : X.calm = true) : ODL X (.builtin "all") pAll := by
  refine ODL.of (cr_all hc) fun xs H Q ⟨C, ds, fx, d, hC, hF, rs, e, k⟩ => ?_
  unfold pAll at e
  split at e
  · obtain ⟨bs, h, rfl⟩ := Option.map_eq_some_iff.mp e
    obtain ⟨v, rfl, r⟩ := reps1 rs
    obtain ⟨a, vs, f, rfl, q, rz⟩ := rep_list hC hF r
    have := bls_rep h rz
    subst this
    exact ⟨a, bs, rfl, q, k.here ⟨rfl, rfl⟩⟩
  · cases e
theorem od_any (hc : X.calm = true) : ODL X (.builtin "any") pAny := by
  refine ODL.of (cr_any hc) fun xs H Q ⟨C, ds, fx, d, hC, hF, rs, e, k⟩ => ?_
  unfold pAny at e
  split at e
  · obtain ⟨bs, h, rfl⟩ := Option.map_eq_some_iff.mp e
    obtain ⟨v, rfl, r⟩ := reps1 rs
    obtain ⟨a, vs, f, rfl, q, rz⟩ := rep_list hC hF r
    have := bls_rep h rz
    subst this
    exact ⟨a, bs, rfl, q, k.here ⟨rfl, rfl⟩⟩
  · cases e
theorem od_sum (hc : X.calm = true) : ODL X (.builtin "sum") pSum := by
  refine ODL.of (cr_sum hc) fun xs H Q ⟨C, ds, fx, d, hC, hF, rs, e, k⟩ => ?_
  unfold pSum at e
  split at e
  · obtain ⟨bs, h, rfl⟩ := Option.map_eq_some_iff.mp e
    obtain ⟨v, rfl, r⟩ := reps1 rs
    obtain ⟨a, vs, f, rfl, q, rz⟩ := rep_list hC hF r
    have := ints_rep h rz
    subst this
    exact ⟨a, bs, rfl, q, k.here ⟨rfl, rfl⟩⟩
  · cases e
theorem sortI_of {ns ns' : List Int} (h1 : ns'.Perm ns) (h2 : ns'.Pairwise (· ≤ ·)) : ns' = sortI ns := by
  have h3 : (sortI ns).Pairwise (· ≤ ·) := by
    have := List.pairwise_mergeSort (le := fun a b : Int => decide (a ≤ b)) (fun a b c h1 h2 => by simp at *; omega) (fun a b => by simp; omega) ns
    exact this.imp fun h => by simpa using h
  exact List.Perm.eq_of_pairwise (le := (· ≤ ·)) (fun a b _ _ h1 h2 => by omega) h2 h3 (h1.trans (List.mergeSort_perm _ _).symm)
theorem reps_intsR {C : Ctx} {H : Hp} (ns : List Int) : Reps C H (ns.map D.int) (ns.map V.int) [] := reps_ints ns
theorem od_sortedI : ODL X (.builtin "sorted") pSortedI := by
  refine ODL.of cr_sortedI fun xs H Q ⟨C, ds, fx, d, hC, hF, rs, e, k⟩ => ?_
  unfold pSortedI at e
  split at e
  · obtain ⟨bs, h, rfl⟩ := Option.map_eq_some_iff.mp e
    obtain ⟨v, rfl, r⟩ := reps1 rs
    obtain ⟨a, vs, f, rfl, q, rz⟩ := rep_list hC hF r
    have := ints_rep h rz
    subst this
    refine ⟨a, bs, rfl, q, fun ns' p h1 h2 hp => ?_⟩
    rw [sortI_of h1 h2]
    exact k.lst (reps_ints _) (imms_ints _) hp
  · cases e

/-! ### slices -/
def cutD (xs : List D) (lo hi : Option Int) : List D := (xs.drop (HT.sIx xs.length 0 lo)).take (HT.sIx xs.length xs.length hi - HT.sIx xs.length 0 lo)
theorem reps_drop : ∀ {ds : List D} {vs : List V} {f : List Addr} (n : Nat), Reps C H ds vs f → ∃ g1 g2, f = g1 ++ g2 ∧ Reps C H (ds.drop n) (vs.drop n) g2
  | ds, vs, f, 0, r => ⟨[], f, rfl, r⟩
  | [], vs, f, n + 1, r => by obtain ⟨h1, h2⟩ := r; subst h1; exact ⟨[], f, rfl, by simpa using ⟨rfl, h2⟩⟩
  | d :: ds, vs, f, n + 1, ⟨v, vs', f1, f2, e, r, rs, e2⟩ => by
    obtain ⟨g1, g2, h1, h2⟩ := reps_drop n rs
    subst e e2 h1
    exact ⟨f1 ++ g1, g2, by simp, by simpa using h2⟩
theorem reps_take : ∀ {ds : List D} {vs : List V} {f : List Addr} (n : Nat), Reps C H ds vs f → ∃ g1 g2, f = g1 ++ g2 ∧ Reps C H (ds.take n) (vs.take n) g1
  | ds, vs, f, 0, r => ⟨[], f, rfl, rfl, rfl⟩
  | [], vs, f, n + 1, r => by obtain ⟨h1, h2⟩ := r; subst h1; exact ⟨f, [], by simp, by simpa using ⟨rfl, h2⟩⟩
  | d :: ds, vs, f, n + 1, ⟨v, vs', f1, f2, e, r, rs, e2⟩ => by
    obtain ⟨g1, g2, h1, h2⟩ := reps_take n rs
    subst e e2 h1
    exact ⟨f1 ++ g1, g2, by simp, v, vs'.take n, f1, g1, by simp, r, h2, rfl⟩
theorem reps_cut {ds : List D} {vs : List V} (lo hi : Option Int) (r : Reps C H ds vs []) : Reps C H (cutD ds lo hi) (cutV vs lo hi) [] := by
  unfold cutD cutV
  rw [reps_length r]
  obtain ⟨g1, g2, h1, h2⟩ := reps_drop (HT.sIx vs.length 0 lo) r
  have hg : g2 = [] := (List.append_eq_nil_iff.mp h1.symm).2
  subst hg
  obtain ⟨g3, g4, h3, h4⟩ := reps_take (HT.sIx vs.length vs.length hi - HT.sIx vs.length 0 lo) h2
  have hg : g3 = [] := (List.append_eq_nil_iff.mp h3.symm).1
  subst hg
  exact h4
theorem imms_sub : ∀ {ds es : List D}, es.Sublist ds → imms ds = true → imms es = true
  | _, _, .slnil, _ => rfl
  | _, _, .cons a h, hi => imms_sub h (by simp only [imms, Bool.and_eq_true] at hi; exact hi.2)
  | _, _, .cons₂ a h, hi => by simp only [imms, Bool.and_eq_true] at hi ⊢; exact ⟨hi.1, imms_sub h hi.2⟩
theorem cutD_sub (ds : List D) (lo hi : Option Int) : (cutD ds lo hi).Sublist ds := (List.take_sublist _ _).trans (List.drop_sublist _ _)
def pSl : D → Option Int → Option Int → Option D
  | .lst _ ds, lo, hi => if imms ds then some (.lst .m (cutD ds lo hi)) else none
  | .tup ds, lo, hi => if imms ds then some (.tup (cutD ds lo hi)) else none
  | .str z, lo, hi => if z.length ≤ sizeLine then some (.str (cutS z lo hi)) else none
  | _, _, _ => none
def rSlD (X : Cx) : V → Option Int → Option Int → Hp → VK → Prop := fun x lo hi H Q => rSlL X.K x lo hi H Q ∨ (rSlA X.K x lo hi H Q ∨ rSlS x lo hi H Q)
theorem sl_any : SlR X (rSlD X) := sl_list.or (sl_tupA.or sl_str)
theorem sl_ok {d r : D} {v : V} {fp : List Addr} {lo hi : Option Int} {Q : VK} (hC : C.At X) (hF : Fr C H) (rp : Rep C H d v fp) (h : pSl d lo hi = some r) (k : Comes C H r Q) : rSlD X v lo hi H Q := by
  unfold pSl at h
  split at h
  · rename_i g ds
    split at h <;> cases h
    rename_i hi'
    obtain ⟨a, vs, f, rfl, q, rz⟩ := rep_list hC hF rp
    have := rz.imm hi'; subst this
    exact .inl ⟨a, vs, rfl, q, fun p hp => k.lst (reps_cut lo hi rz) (imms_sub (cutD_sub _ _ _) hi') hp⟩
  · rename_i ds
    split at h <;> cases h
    rename_i hi'
    obtain ⟨a, vs, rfl, q, rz⟩ := rep_tup hC rp
    have := rz.imm hi'; subst this
    refine .inr (.inl ⟨a, vs, rfl, q, fun hw => ?_, fun hw p hp => k.tup (reps_cut lo hi rz) (imms_sub (cutD_sub _ _ _) hi') hp⟩)
    have hl := reps_length rz
    have e : cutD ds lo hi = ds := by
      unfold cutD
      rw [hl, hw.1, hw.2, ← hl]; simp
    rw [e] at k
    exact k.here ⟨a, vs, rfl, by rw [hC.1]; exact q, rz⟩
  · rename_i z
    split at h <;> cases h
    rename_i hz
    obtain ⟨rfl, _⟩ := rp
    exact .inr (.inr ⟨z, rfl, hz, k.here ⟨rfl, rfl⟩⟩)
  · cases h

/-- a part of a slice -/
structure SPt (X : Cx) (W : WX) (M : List Nat) (e : Option Expr) (c : Env → R (Option Int)) : Prop where
  go : ∃ t, PO X e t ∧ ∀ C fs env σ H tf Q, C.At X → Good C fs env σ H tf → (match c env with
    | .ok o env' => ∀ fs' H', Good C fs' env' σ H' tf → Step M tf fs env H fs' env' H' → Q o H'
    | .ex x env' => ∀ cv dd fs' H', Good C fs' env' σ H' tf → Step M tf fs env H fs' env' H' → ExIs C x cv dd H' → W cv dd σ H'
    | .err => False) → t σ H Q
def pNo : Env → R (Option Int) := fun env => .ok none env
def pAt (c : CE) : Env → R (Option Int) := fun env => (c env).bind fun d env => match d with
  | .int i => .ok (some i) env
  | _ => .err
theorem sp_no : SPt X W [] none pNo := ⟨tNoPart, po_none, fun C fs env σ H tf Q hC G po => po fs H G .refl⟩
theorem sp_at (h : SB X W M Rs e ca) : SPt X W M (some e) (pAt ca) := by
  obtain ⟨t, p, q⟩ := h.go
  refine ⟨tPart t, po_some p, fun C fs env σ H tf Q hC G po => ?_⟩
  show t σ H fun x H1 => ∃ i, x = .int i ∧ Q (some i) H1
  refine q C fs env σ H tf _ hC G ?_
  unfold pAt at po
  cases e1 : ca env with
  | err => rw [e1] at po; exact po
  | ex x env' => rw [e1] at po; exact po
  | ok d env' =>
    rw [e1] at po
    intro v fs' H' fp own G' s r i1
    cases d with
    | int i => obtain ⟨rfl, _⟩ := r; exact ⟨i, rfl, po fs' H' G'.drop s⟩
    | _ => exact po.elim
def cSl (ca : CE) (lo hi : Env → R (Option Int)) : CE := fun env => (ca env).bind fun d env => (lo env).bind fun l env => (hi env).bind fun h env => R.of (pSl d l h) env
theorem so_slice {p2 : Pos} {lo hi : Option Expr} {cl ch : Env → R (Option Int)} (ha : SB X W M1 R1 a ca) (hl : SPt X W M2 lo cl) (hh : SPt X W M3 hi ch) (hd : djB R1 (M2 ++ M3) = true) : SO X W (M1 ++ (M2 ++ M3)) (.Subscript a (.Slice lo hi none p2) pos) (cSl ca cl ch) := by
  obtain ⟨t, p, q⟩ := ha.go
  obtain ⟨t2, p2', q2⟩ := hl.go
  obtain ⟨t3, p3, q3⟩ := hh.go
  refine ⟨tSl (rSlD X) t t2 t3, pe_slice sl_any p p2' p3, fun C fs env σ H tf Q hC G po => ?_⟩
  show t σ H fun x H1 => t2 σ H1 fun l H2 => t3 σ H2 fun u H3 => rSlD X x l u H3 Q
  have dj := djB_ok hd
  refine q C fs env σ H tf _ hC G ?_
  unfold cSl at po
  cases e1 : ca env with
  | err => rw [e1] at po; exact po
  | ex x env' => rw [e1] at po; exact fun cv dd fs' H' G' s => po cv dd fs' H' G' (s.weak mem_l fun _ z => z)
  | ok d env1 =>
    rw [e1] at po
    intro v fs1 H1 fp own G1 s1 r1 i1
    have po1 := PostO.step s1 po
    refine q2 C fs1 env1 σ H1 (own ++ tf) _ hC G1 ?_
    simp only [R.bind] at po1
    cases e2 : cl env1 with
    | err => rw [e2] at po1; exact po1
    | ex x env' => rw [e2] at po1; exact fun cv dd fs' H' G' s => po1 cv dd fs' H' G'.drop (s.weak mem_l fun x hx => List.mem_append_right _ hx)
    | ok l env2 =>
      rw [e2] at po1
      intro fs2 H2 G2 s2
      have s2' := s2.weak (fun _ z => z) (tf' := tf) fun x hx => List.mem_append_right _ hx
      have po2 := PostO.step s2' po1
      refine q3 C fs2 env2 σ H2 (own ++ tf) _ hC G2 ?_
      simp only at po2
      cases e3 : ch env2 with
      | err => rw [e3] at po2; exact po2
      | ex x env' => rw [e3] at po2; exact fun cv dd fs' H' G' s => po2 cv dd fs' H' G'.drop (s.weak (fun _ z => z) fun x hx => List.mem_append_right _ hx)
      | ok h env3 =>
        rw [e3] at po2
        intro fs3 H3 G3 s3
        have s23 := s2.trans s3
        have r3 : Rep C H3 d v fp := r1.keep (i1.keep s23 dj) s23.m
        simp only [R.of] at po2
        cases e4 : pSl d l h with
        | none => rw [e4] at po2; exact po2.elim
        | some r =>
          rw [e4] at po2
          have s3' := s3.weak (fun _ z => z) (tf' := tf) fun x hx => List.mem_append_right _ hx
          exact sl_ok hC G3.fr r3 e4 (comes_post (own := own) G3 s3' po2)

/-! ### a component of an owned tuple or list -/
def cTake (ca cb : CE) : CE := fun env => (ca env).bind fun d env => (cb env).bind fun y env => match d, y with
  | .tup ds, .int i => R.of (atI ds i) env
  | .lst .m ds, .int i => R.of (atI ds i) env
  | _, _ => .err
theorem so_take {k : Nat} (hr : Room k X.A) (ha : SO X W M1 a ca) (hb : SB X W M2 R2 b cb) (hs : PlainIx b) : SO X W (M1 ++ M2) (.Subscript a b pos) (cTake ca cb) := by
  obtain ⟨t, p, q⟩ := ha.go
  obtain ⟨t2, p2', q2⟩ := hb.go
  refine ⟨tOp (fun x y H Q => rIx X.K x y H Q ∨ rIxD x y H Q) t t2, pe_ix (ix_seq.or (ix_dict hr)) p p2' hs, fun C fs env σ H tf Q hC G po => ?_⟩
  show t σ H fun x H1 => t2 σ H1 fun y H2 => rIx X.K x y H2 Q ∨ rIxD x y H2 Q
  refine q C fs env σ H tf _ hC G ?_
  unfold cTake at po
  cases e1 : ca env with
  | err => rw [e1] at po; exact po
  | ex x env' => rw [e1] at po; exact fun cv dd fs' H' G' s => po cv dd fs' H' G' (s.weak mem_l fun _ z => z)
  | ok d env1 =>
    rw [e1] at po
    intro v fs1 H1 fp G1 s1 r1
    have po1 := PostO.step s1 po
    refine q2 C fs1 env1 σ H1 (fp ++ tf) _ hC G1 ?_
    simp only [R.bind] at po1
    cases e2 : cb env1 with
    | err => rw [e2] at po1; exact po1
    | ex x env' => rw [e2] at po1; exact fun cv dd fs' H' G' s => po1 cv dd fs' H' G'.drop (s.weak (fun _ z => z) fun x hx => List.mem_append_right _ hx)
    | ok y env2 =>
      rw [e2] at po1
      intro w fs2 H2 f2 own G2 s2 r2 _
      have s2' := s2.weak (fun _ z => z) (tf' := tf) fun x hx => List.mem_append_right _ hx
      have r1' : Rep C H2 d v fp := r1.keep (fun a ha => s2.t a (List.mem_append_left _ ha)) s2.m
      have G2 := G2.drop
      simp only at po1
      have fin : ∀ {x : D} {u : V} {g1 f g2 : List Addr} (e : fp = g1 ++ f ++ g2), Rep C H2 x u f → PostO W C M2 tf fs1 env1 σ H1 Q (.ok x env2) → Q u H2 := fun {x u g1 f g2} e ru po => by
        refine po u fs2 H2 f (G2.sub ?_) s2' ru
        rw [e]
        refine List.Sublist.append ?_ (List.Sublist.refl _)
        exact (List.sublist_append_right g1 f).trans (List.sublist_append_left _ _)
      cases d with
      | tup ds =>
        cases y with
        | int i =>
          simp only [R.of] at po1
          cases e3 : atI ds i with
          | none => rw [e3] at po1; exact po1.elim
          | some x =>
            rw [e3] at po1
            obtain ⟨ad, vs, rfl, n, rs⟩ := r1'
            obtain ⟨rfl, _⟩ := r2
            obtain ⟨u, k1, f, k2, h1, h2, h3⟩ := atI_reps rs e3
            exact .inl (.inr (.inl ⟨ad, vs, i, u, rfl, rfl, by rwa [hC.1] at n, h1, fin h3 h2 po1⟩))
        | _ => exact po1.elim
      | lst g ds =>
        cases g with
        | m =>
          cases y with
          | int i =>
            simp only [R.of] at po1
            cases e3 : atI ds i with
            | none => rw [e3] at po1; exact po1.elim
            | some x =>
              rw [e3] at po1
              obtain ⟨ad, vs, g1, g2, rfl, n, rs, _, ef⟩ := r1'
              obtain ⟨rfl, _⟩ := r2
              obtain ⟨u, k1, f, k2, h1, h2, h3⟩ := atI_reps rs e3
              refine .inl (.inl ⟨ad, vs, i, u, rfl, rfl, by have := (Nd.rd n G2.fr).sql; rwa [hC.1] at this, h1, fin (g1 := g1 ++ k1) (g2 := k2) (by rw [ef, h3]; simp) h2 po1⟩)
          | _ => exact po1.elim
        | _ => exact po1.elim
      | _ => exact po1.elim
end
end VS

set_option maxRecDepth 100000
namespace VS
open PySem L2 SeqAt RZ
section
variable {X : Cx} {W : WX} {M M1 M2 M3 M4 V1 V2 V3 Rs R1 R2 R3 : List Nat} {e a b c tg : Expr} {es ifs : List Expr} {ca cb cc : CE} {cs src : CA} {ct : CT} {pos p : Pos} {g : D → Env → Option Env}
variable {pins : List (Addr × Obj)} {σ σ' : St} {H H1 H2 H' : Hp} {s : Shared} {C C' : Ctx}
theorem pi_or {t1 t2 : TI} (h1 : PI X tg e t1) (h2 : PI X tg e t2) : PI X tg e (fun σ H R => t1 σ H R ∨ t2 σ H R) :=
  ⟨fun pins s σ H R I h => h.elim (h1.run pins s σ H R I) (h2.run pins s σ H R I)⟩
theorem src_list {g : Fl} {ds : List D} {v : V} {fp : List Addr} (hC : C.At X) (hF : Fr C H1) (r : Rep C H1 (.lst g ds) v fp) (hi : imms ds = true) : ∃ a vs, v = .ref a ∧ SqL X.K H1 a vs ∧ Reps C H1 ds vs [] ∧
    (∀ H2, Fr C H2 ∧ Mono H1 H2 ∧ (∀ b ∈ fp, H2 b = H1 b) → SqL X.K H2 a vs ∧ Reps C H2 ds vs []) := by
  obtain ⟨a, vs, f1, f2, rfl, n, rs, hz, ef⟩ := r
  have sq : SqL X.K H1 a vs := by have := (Nd.rd n hF).sql; rwa [hC.1] at this
  have z := rs.imm hi
  subst z
  refine ⟨a, vs, rfl, sq, rs, fun H2 ⟨hf2, hm, hk⟩ => ⟨?_, rs.keep (fun b hb => nomatch hb) hm⟩⟩
  have n2 : Nd C H2 g a (.lst vs) f1 := Nd.keep n (fun b hb => hk b (by rw [ef]; simp [hb])) hm
  have := (Nd.rd n2 hf2).sql; rwa [hC.1] at this
theorem src_tup {ds : List D} {v : V} {fp : List Addr} (hC : C.At X) (r : Rep C H1 (.tup ds) v fp) (hi : imms ds = true) : ∃ a vs, v = .ref a ∧ SqT X.K H1 a vs ∧ Reps C H1 ds vs [] ∧
    (∀ H2, Fr C H2 ∧ Mono H1 H2 ∧ (∀ b ∈ fp, H2 b = H1 b) → SqT X.K H2 a vs ∧ Reps C H2 ds vs []) := by
  obtain ⟨a, vs, rfl, n, rs⟩ := r
  have sq : SqT X.K H1 a vs := by rwa [hC.1] at n
  have z := rs.imm hi
  subst z
  exact ⟨a, vs, rfl, sq, rs, fun H2 ⟨hf2, hm, hk⟩ => ⟨sqt_keep sq hm, rs.keep (fun b hb => nomatch hb) hm⟩⟩
/-- a list or a tuple -/
def iAnyD (c : CE) : CA := fun env => (c env).bind fun d env => match d with
  | .lst _ ds => if imms ds then .ok ds env else .err
  | .tup ds => if imms ds then .ok ds env else .err
  | _ => .err
theorem si_any (h : SB X W M Rs e ca) : SI X W M Rs tg e (iAnyD ca) := by
  obtain ⟨t, p, q⟩ := (si_list (tg := tg) h).go
  obtain ⟨t2, p2, q2⟩ := (si_tup (tg := tg) h).go
  refine ⟨_, pi_or p p2, fun C fs env σ H tf Q hC G po => ?_⟩
  unfold iAnyD at po
  cases e1 : ca env with
  | err => rw [e1] at po; exact po.elim
  | ex x env' =>
    refine .inl (q C fs env σ H tf Q hC G ?_)
    unfold iSeq
    rw [e1] at po ⊢
    exact po
  | ok d env1 =>
    rw [e1] at po
    cases d with
    | lst g ds =>
      refine .inl (q C fs env σ H tf Q hC G ?_)
      unfold iSeq
      rw [e1]
      exact po
    | tup ds =>
      refine .inr (q2 C fs env σ H tf Q hC G ?_)
      unfold iTupD
      rw [e1]
      exact po
    | _ => exact po.elim
/-- numbered -/
def numD : Nat → List D → List D
  | _, [] => []
  | i, d :: ds => .tup [.int (i : Nat), d] :: numD (i + 1) ds
theorem numD_get : ∀ {ds : List D} {k i : Nat}, (numD k ds)[i]? = (ds[i]?).map fun d => .tup [.int ((k + i : Nat) : Int), d]
  | [], k, i => by simp [numD]
  | d :: ds, k, 0 => by simp [numD]
  | d :: ds, k, i + 1 => by
    simp only [numD, List.getElem?_cons_succ]
    rw [numD_get]
    congr 1
    funext x
    have : k + 1 + i = k + (i + 1) := by omega
    rw [this]
theorem numD_len : ∀ {ds : List D} {k : Nat}, (numD k ds).length = ds.length
  | [], k => rfl
  | d :: ds, k => by simp [numD, numD_len]
def iEnumD (c : CE) : CA := fun env => (c env).bind fun d env => match d with
  | .lst _ ds => if imms ds then .ok (numD 0 ds) env else .err
  | _ => .err
theorem si_enum {elts : List Expr} {kk : Nat} {tpos p2 : Pos} (hg : Gl X "enumerate") (hm : X.mg "enumerate" = none) (h : SB X W M Rs e ca) (hs : starEach [e] X.env = [(false, eval e X.env)] := by rfl) : SI X W M Rs (.Tuple elts kk tpos) (.Call (.Name "enumerate" p2) [e] [] pos) (iEnumD ca) := by
  obtain ⟨t, p, q⟩ := h.go
  refine ⟨iEnum X.K (tCons t tNil), pi_enum hg hm (pa_cons p pa_nil hs) hs, fun C fs env σ H tf Q hC G po => ?_⟩
  show t σ H fun x H1 => _
  refine q C fs env σ H tf _ hC G ?_
  unfold iEnumD at po
  cases e1 : ca env with
  | err => rw [e1] at po; exact po
  | ex x env' => rw [e1] at po; exact po
  | ok d env1 =>
    rw [e1] at po
    intro v fs1 H1 fp own G1 s1 r1 i1
    cases d with
    | lst g ds =>
      have po' : PostI W C M Rs tf fs env σ H Q (if imms ds then .ok (numD 0 ds) env1 else .err) := po
      by_cases hi : imms ds = true
      · rw [if_pos hi] at po'
        obtain ⟨a, vs, rfl, sq, rs, kp⟩ := src_list hC G1.fr r1 hi
        refine ⟨a, vs, rfl, sq, po' _ fs1 H1 fp own G1 s1 ⟨?_⟩ i1⟩
        rw [numD_len, reps_length rs]
        refine Walk.mono (walk_enum (K := X.K) (a := a) (xs := vs)) (fun H2 h2 => (kp H2 h2).1) fun i H2 x H3 hi2 h2 ⟨T, y, z, e1, e2, e3, e4, e5⟩ => ?_
        subst e1 e3
        cases e4
        obtain ⟨d, h1, h3⟩ := reps_imm_get (kp H2 h2).2 hi e5
        have le := Le.new (o := .tup [.int (i : Nat), z]) e2
        refine ⟨le, .tup [.int (i : Nat), d], by rw [numD_get, h1]; simp, T, _, rfl, SqT.of upd_same, .int (i : Nat), [z], [], [], rfl, ⟨rfl, rfl⟩, ⟨z, [], [], [], rfl, h3.le le, ⟨rfl, rfl⟩, rfl⟩, rfl⟩
      · rw [if_neg hi] at po'; exact po'.elim
    | _ => exact po.elim
/-- pairs -/
def zipD : List D → List D → List D
  | x :: xs, y :: ys => .tup [x, y] :: zipD xs ys
  | _, _ => []
theorem zipD_get : ∀ {xs ys : List D} {i : Nat} {x y : D}, xs[i]? = some x → ys[i]? = some y → (zipD xs ys)[i]? = some (.tup [x, y])
  | [], ys, i, x, y, h, _ => by simp at h
  | x0 :: xs, [], i, x, y, _, h => by simp at h
  | x0 :: xs, y0 :: ys, 0, x, y, h1, h2 => by simp at h1 h2; subst h1 h2; simp [zipD]
  | x0 :: xs, y0 :: ys, i + 1, x, y, h1, h2 => by simp only [zipD, List.getElem?_cons_succ]; exact zipD_get (by simpa using h1) (by simpa using h2)
theorem zipD_len : ∀ {xs ys : List D}, (zipD xs ys).length = min xs.length ys.length
  | [], ys => by simp [zipD]
  | x :: xs, [] => by simp [zipD]
  | x :: xs, y :: ys => by simp only [zipD, List.length_cons, zipD_len]; omega
def zipP : List D → Option (List D)
  | [.lst _ xs, .lst _ ys] => if imms xs && imms ys then some (zipD xs ys) else none
  | [.tup xs, .tup ys] => if imms xs && imms ys then some (zipD xs ys) else none
  | _ => none
def iZipD (cs : CA) : CA := fun env => (cs env).bind fun ds env => R.of (zipP ds) env
theorem walk_zipT' {K : PySem.W.Frag} {a b : Addr} {xs ys : List V} {n : Nat} (hn : n = min xs.length ys.length) : Walk (ItzT K a b) n (fun H => SqT K H a xs ∧ SqT K H b ys) (YPair (fun i => xs[i]?) (fun i => ys[i]?)) := by
  subst hn
  refine ⟨fun i _ hi q => ?_, fun _ q => ⟨xs, ys, q.1, q.2, by omega⟩, fun i H v H' _ q y => ?_⟩
  · have h1 : i < xs.length := by omega
    have h2 : i < ys.length := by omega
    exact ⟨xs, ys, xs[i], ys[i], q.1, q.2, by simp [h1], by simp [h2]⟩
  · obtain ⟨T, x, z, h1, h2, h3, h4, h5⟩ := y
    exact ⟨T, x, z, h1, h2, h3, h4 xs q.1, h5 ys q.2⟩
theorem pair_src {xs ys : List D} {vs ws : List V} {i : Nat} {x : V} {H2 H3 : Hp} (r1 : Reps C H2 xs vs []) (r2 : Reps C H2 ys ws []) (h1 : imms xs = true) (h2 : imms ys = true) (y : YPair (fun i => vs[i]?) (fun i => ws[i]?) i H2 x H3) :
    Le H2 H3 ∧ ∃ d, (zipD xs ys)[i]? = some d ∧ Rep C H3 d x [] := by
  obtain ⟨T, y, z, e1, e2, e3, e4, e5⟩ := y
  subst e1 e3
  obtain ⟨d, k1, k2⟩ := reps_imm_get r1 h1 e4
  obtain ⟨d', k3, k4⟩ := reps_imm_get r2 h2 e5
  have le := Le.new (o := .tup [y, z]) e2
  exact ⟨le, .tup [d, d'], zipD_get k1 k3, T, _, rfl, SqT.of upd_same, y, [z], [], [], rfl, k2.le le, ⟨z, [], [], [], rfl, k4.le le, ⟨rfl, rfl⟩, rfl⟩, rfl⟩
theorem si_zip {e2 : Expr} {elts : List Expr} {kk : Nat} {tpos p2 : Pos} (hg : Gl X "zip") (hm : X.mg "zip" = none) (h : SA X W M Rs [e, e2] cs) (hs : starEach [e, e2] X.env = (false, eval e X.env) :: starEach [e2] X.env := by rfl) (hpl : (backTo pos (starEach [e2] X.env)).any (·.1) = false := by rfl) :
    SI X W M Rs (.Tuple elts kk tpos) (.Call (.Name "zip" p2) [e, e2] [] pos) (iZipD cs) := by
  obtain ⟨t, p, q⟩ := h.go
  refine ⟨iZipA X.K t, pi_zipA hg hm p hs hpl, fun C fs env σ H tf Q hC G po => ?_⟩
  show t σ H fun vs H1 => _
  refine q C fs env σ H tf _ hC G ?_
  unfold iZipD at po
  cases e1 : cs env with
  | err => rw [e1] at po; exact po
  | ex x env' => rw [e1] at po; exact po
  | ok ds env1 =>
    rw [e1] at po
    intro vs fs1 H1 fp own G1 s1 r1 i1
    have po' : PostI W C M Rs tf fs env σ H Q (R.of (zipP ds) env1) := po
    cases ez : zipP ds with
    | none => rw [ez] at po'; exact po'.elim
    | some zs =>
    rw [ez] at po'
    unfold zipP at ez
    split at ez
    · rename_i g xs g' ys
      split at ez <;> cases ez
      rename_i hi
      simp only [Bool.and_eq_true] at hi
      obtain ⟨v, w, f1, f2, rfl, ra, rb, ef⟩ := reps2 r1
      obtain ⟨a, vs, rfl, sq, rs, kp⟩ := src_list hC G1.fr ra hi.1
      obtain ⟨b, ws, rfl, sq', rs', kp'⟩ := src_list hC G1.fr rb hi.2
      refine ⟨a, b, vs, ws, rfl, .inl ⟨sq, sq', po' _ fs1 H1 fp own G1 s1 ⟨?_⟩ i1⟩⟩
      rw [zipD_len, reps_length rs, reps_length rs']
      have hsub : ∀ {H2 : Hp}, (Fr C H2 ∧ Mono H1 H2 ∧ ∀ c ∈ fp, H2 c = H1 c) → (Fr C H2 ∧ Mono H1 H2 ∧ ∀ c ∈ f1, H2 c = H1 c) ∧ (Fr C H2 ∧ Mono H1 H2 ∧ ∀ c ∈ f2, H2 c = H1 c) := fun {H2} ⟨x, y, z⟩ =>
        ⟨⟨x, y, fun c hc => z c (by rw [ef]; simp [hc])⟩, ⟨x, y, fun c hc => z c (by rw [ef]; simp [hc])⟩⟩
      exact Walk.mono (walk_zip (K := X.K) rfl) (fun H2 h2 => ⟨(kp H2 (hsub h2).1).1, (kp' H2 (hsub h2).2).1⟩) fun i H2 x H3 hi2 h2 y => pair_src (kp H2 (hsub h2).1).2 (kp' H2 (hsub h2).2).2 hi.1 hi.2 y
    · rename_i xs ys
      split at ez <;> cases ez
      rename_i hi
      simp only [Bool.and_eq_true] at hi
      obtain ⟨v, w, f1, f2, rfl, ra, rb, ef⟩ := reps2 r1
      obtain ⟨a, vs, rfl, sq, rs, kp⟩ := src_tup hC ra hi.1
      obtain ⟨b, ws, rfl, sq', rs', kp'⟩ := src_tup hC rb hi.2
      refine ⟨a, b, vs, ws, rfl, .inr ⟨sq, sq', po' _ fs1 H1 fp own G1 s1 ⟨?_⟩ i1⟩⟩
      rw [zipD_len, reps_length rs, reps_length rs']
      have hsub : ∀ {H2 : Hp}, (Fr C H2 ∧ Mono H1 H2 ∧ ∀ c ∈ fp, H2 c = H1 c) → (Fr C H2 ∧ Mono H1 H2 ∧ ∀ c ∈ f1, H2 c = H1 c) ∧ (Fr C H2 ∧ Mono H1 H2 ∧ ∀ c ∈ f2, H2 c = H1 c) := fun {H2} ⟨x, y, z⟩ =>
        ⟨⟨x, y, fun c hc => z c (by rw [ef]; simp [hc])⟩, ⟨x, y, fun c hc => z c (by rw [ef]; simp [hc])⟩⟩
      exact Walk.mono (walk_zipT' (K := X.K) rfl) (fun H2 h2 => ⟨(kp H2 (hsub h2).1).1, (kp' H2 (hsub h2).2).1⟩) fun i H2 x H3 hi2 h2 y => pair_src (kp H2 (hsub h2).1).2 (kp' H2 (hsub h2).2).2 hi.1 hi.2 y
    · cases ez
end
end VS

set_option maxRecDepth 100000
namespace VS
open PySem L2 SeqAt PySem.Spec PyProof.Rows HT
section
variable {prog : Program} {w : World} {A : Around} {E : Value → Shared → Prop} {s : Shared}
theorem sliceApplied_st {sl : Addr} {vl vu vs : Value} {n : Nat} {k : Int} {Q : Int × Int × Nat → Shared → Prop} (hs : s.heap.IsSliceOf sl vl vu vs) (pl : IsPart vl none) (pu : IsPart vu none) (ps : IsPart vs (some k)) (hk : (k == 0) = false)
    (h : Q ((Builtin.Slice.sliceAdjust none none k (n : Int)).1, k, Builtin.Slice.slicePlaces (Builtin.Slice.sliceAdjust none none k (n : Int)).1 (Builtin.Slice.sliceAdjust none none k (n : Int)).2 k) s) : wpAny (model prog w) A (Builtin.Slice.sliceApplied (.ref sl) (pure (n : Int))) Q E s := by
  obtain ⟨os, hos, hcs, hds⟩ := id hs
  unfold Builtin.Slice.sliceApplied Builtin.Slice.sliceFields
  refine wpAny_bind (wpAny_bind (wpAny_field hos hds (x := vl) rfl (wpAny_bind (wpAny_field hos hds (x := vu) rfl (wpAny_bind (wpAny_field hos hds (x := vs) rfl (wpAny_pure ?_)))))))
  refine wpAny_bind (slicePart_ ps ?_)
  show wpAny _ _ (if (k == 0) = true then _ else _) _ _ s
  rw [if_neg (by rw [hk]; decide)]
  refine wpAny_bind (slicePart_ pl (wpAny_bind (slicePart_ pu (wpAny_bind (wpAny_pure ?_)))))
  exact wpAny_pure h
theorem adj_one (n : Nat) : Builtin.Slice.sliceAdjust none none 1 (n : Int) = (0, (n : Int)) := rfl
theorem adj_neg (n : Nat) : Builtin.Slice.sliceAdjust none none (-1) (n : Int) = ((n : Int) - 1, -1) := rfl
theorem places_one (n : Nat) : Builtin.Slice.slicePlaces 0 (n : Int) 1 = n := by
  unfold Builtin.Slice.slicePlaces
  rw [if_pos (by decide)]
  split <;> omega
theorem places_neg (n : Nat) : Builtin.Slice.slicePlaces ((n : Int) - 1) (-1) (-1) = n := by
  unfold Builtin.Slice.slicePlaces
  rw [if_neg (by decide), show (-(-1 : Int)) = 1 from rfl]
  split <;> omega
theorem fm_congr {α β : Type} {f g : α → Option β} : ∀ {l : List α}, (∀ x ∈ l, f x = g x) → l.filterMap f = l.filterMap g
  | [], _ => rfl
  | a :: l, h => by rw [List.filterMap_cons, List.filterMap_cons, h a (by simp), fm_congr fun x hx => h x (by simp [hx])]
theorem pick_neg (xs : List Value) : ((List.range xs.length).filterMap fun (m : Nat) => xs.toArray[(((xs.length : Int) - 1) + (m : Int) * -1).toNat]?).toArray = xs.reverse.toArray := by
  have e := pick_gen xs.reverse.toArray 0 xs.length
  simp only [List.toList_toArray, List.drop_zero] at e
  rw [show xs.reverse.take xs.length = xs.reverse from by rw [← List.length_reverse, List.take_length]] at e
  rw [← e]
  congr 1
  refine fm_congr fun m hm => ?_
  have hm := List.mem_range.mp hm
  have e1 : (((xs.length : Int) - 1) + (m : Int) * -1).toNat = xs.length - 1 - m := by omega
  have e2 : (((0 : Nat) : Int) + (m : Int) * 1).toNat = m := by omega
  rw [e1, e2]
  simp only [List.getElem?_toArray]
  rw [List.getElem?_reverse hm]
theorem getItem_tuple_st {t sl : Addr} {its : List Value} {vl vu vs : Value} {k : Int} {Q : Value → Shared → Prop} (ht : IsTup s.heap t its.toArray) (hs : s.heap.IsSliceOf sl vl vu vs) (pl : IsPart vl none) (pu : IsPart vu none) (ps : IsPart vs (some k))
    (h1 : k = 1 → Q (.ref t) s) (h2 : k = -1 → Q (.ref s.heap.objs.size) { s with heap := s.heap.push { cls := .type "tuple", data := .seq its.reverse.toArray } }) (hk : k = 1 ∨ k = -1) (hsz : its.length ≤ sizeLine) : wpAny (model prog w) A (getItem (.ref t) (.ref sl)) Q E s := by
  obtain ⟨os, hos, hcs, hds⟩ := id hs
  have hTs : s.TypeIs (.ref sl) "slice" := ⟨os, hos, hcs⟩
  unfold getItem
  try with_reducible refine wpAny_holding ?_
  first | refine wpAny_bind (wpAny_pure ?_) | skip
  refine wpAny_bind (wpAny_sequenceKey ht.typeIs (by decide) ?_)
  refine wpAny_bind (wpAny_callSpecial?_slot (name := Str.ofString "__getitem__") ht.typeIs PyProof.Rows.slot_tuple_getitem
    (wpAny_call_entry PyProof.Rows.slot_tuple_getitem ht.typeIs entry_tuple_getitem ?_ (args_tuple_getitem _ _)))
  show wpAny _ _ (Builtin.Tuple.tupleItemsOf (.ref t) >>= _) _ _ s
  refine wpAny_bind (tupleItemsOf_ ht ?_)
  refine wpAny_bind (wpAny_typeOf hTs ?_)
  rw [if_pos (by decide)]
  have hz : its.toArray.size = its.length := List.size_toArray
  rcases hk with hk | hk
  · subst hk
    refine wpAny_bind (sliceApplied_st hs pl pu ps rfl ?_)
    rw [adj_one]
    show wpAny _ _ (if (((0 : Int) == 0 && (1 : Int) == 1 && Builtin.Slice.slicePlaces 0 (its.toArray.size : Int) 1 == its.toArray.size) = true) then _ else _) _ _ s
    rw [places_one, if_pos (by simp)]
    refine wpAny_bind ?_
    show wpAny _ _ (typeOf (.ref t) >>= fun T => pure (T == .type "tuple")) _ _ s
    refine wpAny_bind (wpAny_typeOf ht.typeIs (wpAny_pure ?_))
    first
      | rw [if_pos (by decide)]
      | simp only [beq_self_eq_true, if_true]
    first
      | exact wpAny_bind (wpAny_rule (wpAny_pure ⟨_, rfl, wpAny_pure (h1 rfl)⟩))
      | exact wpAny_bind (wpAny_bind (wpAny_rule (wpAny_pure (wpAny_pure ⟨_, rfl, wpAny_pure (h1 rfl)⟩))))
      | exact wpAny_bind (wpAny_rule (wpAny_bind (wpAny_pure (wpAny_pure ⟨_, rfl, wpAny_pure (h1 rfl)⟩))))
  · subst hk
    refine wpAny_bind (sliceApplied_st hs pl pu ps rfl ?_)
    rw [adj_neg]
    show wpAny _ _ (if ((((its.toArray.size : Int) - 1) == 0 && (-1 : Int) == 1 && Builtin.Slice.slicePlaces ((its.toArray.size : Int) - 1) (-1) (-1) == its.toArray.size) = true) then _ else _) _ _ s
    rw [places_neg, if_neg (by simp), hz, pick_neg]
    have htake : sizeOk (.seq its.reverse.toArray) := by
      show its.reverse.toArray.size ≤ sizeLine
      rw [List.size_toArray, List.length_reverse]; exact hsz
    first
      | exact wpAny_bind (m := Builtin.Tuple.tupleExact _) (wpAny_newObj_type (wpAny_pure ⟨_, rfl, wpAny_pure (h2 rfl)⟩) htake)
      | exact wpAny_bind (m := Builtin.Tuple.tupleExact _) (wpAny_newObj_type (wpAny_bind (wpAny_pure (wpAny_pure ⟨_, rfl, wpAny_pure (h2 rfl)⟩))) htake)
      | exact wpAny_bind (wpAny_bind (m := Builtin.Tuple.tupleExact _) (wpAny_newObj_type (wpAny_pure (wpAny_pure ⟨_, rfl, wpAny_pure (h2 rfl)⟩)) htake))
      | exact wpAny_bind (wpAny_bind (m := Builtin.Tuple.tupleExact _) (wpAny_newObj_type (wpAny_pure ⟨_, rfl, wpAny_pure (h2 rfl)⟩) htake))
end
section
variable {X : Cx} {W : WX} {M M1 M2 M3 M4 V1 V2 V3 Rs R1 R2 R3 : List Nat} {e a b c tg : Expr} {es ifs : List Expr} {ca cb cc : CE} {cs src : CA} {ct : CT} {pos p : Pos} {g : D → Env → Option Env}
variable {pins : List (Addr × Obj)} {σ σ' : L2.St} {H H1 H2 H' : Hp} {s : Shared} {C C' : Ctx}
/-- x[::k], k one or minus one -/
def rStep (K : PySem.W.Frag) : V → Int → Hp → VK → Prop := fun x k H Q => (k = 1 ∨ k = -1) ∧ ∃ a vs, x = .ref a ∧
  ((SqT K H a vs ∧ (k = 1 → Q (.ref a) H) ∧ (k = -1 → ∀ p, H p = none → Q (.ref p) (upd H p (.tup vs.reverse)))) ∨ (SqL K H a vs ∧ k = -1 ∧ ∀ p, H p = none → Q (.ref p) (upd H p (.lst vs.reverse))))
theorem pe_step {te tk : TE} {p3 : Pos} (he : PE X e te) (hk : PE X a tk) : PE X (.Subscript e (.Slice none none (some a) p3) pos) (fun σ H Q => te σ H fun x H1 => tk σ H1 fun y H2 => ∃ k, y = .int k ∧ rStep X.K x k H2 Q) := by
  refine ⟨fun pins s σ H Q I h => ?_⟩
  refine Subscript_ (thn (he.run pins s σ H _ I h) fun v s1 ⟨x, H1, I1, r1, q1⟩ => ?_)
  refine wpAny_Slice (thn (po_none.run pins s1 σ H1 (fun o H2 => o = none ∧ H2 = H1) I1 ⟨rfl, rfl⟩) fun vl s2 ⟨l, H2, I2, pl, el, e2⟩ => ?_)
  subst el e2
  refine thn (po_none.run pins s2 σ H2 (fun o H3 => o = none ∧ H3 = H2) I2 ⟨rfl, rfl⟩) fun vu s3 ⟨u, H3, I3, pu, eu, e3⟩ => ?_
  subst eu e3
  rw [evalPart_some]
  refine thn (hk.run pins s3 σ H3 _ I3 q1) fun vs s4 ⟨y, H4, I4, ry, k, ey, hq⟩ => ?_
  subst ey
  obtain ⟨tk', rfl⟩ := ry
  have ps : IsPart (.int k tk') (some k) := .int k tk'
  generalize Value.int k tk' = vs at ps
  obtain ⟨hk1, ad, ws, ex, hq⟩ := hq
  subst ex
  cases r1
  have I5 : Inv X pins σ H4 { s4 with heap := s4.heap.push { cls := .type "slice", data := .fields #[vl, vu, vs] } } := I4.kept (t' := s4.toks) fun b ob q => Heap.get?_push_of_some _ q
  show wpAny (model X.prog X.w) X.A (subscriptTail e (.Slice none none (some a) p3) (.ref ad) (.ref s4.heap.objs.size)) (EP X pins σ Q) X.xe { s4 with heap := s4.heap.push { cls := .type "slice", data := .fields #[vl, vu, vs] } }
  rcases hq with ⟨ht, q1, q2⟩ | ⟨hl, ek, q2⟩
  · obtain ⟨its, r, pt, hz⟩ := I5.tuple ht
    have hlen := r.length
    refine tail_any (ops := [.ref ad, .ref s4.heap.objs.size]) pt.typeIs (PyProof.Rows.slot_tuple_getitem.lookup) ?_ (by with_unfolding_all rfl)
    refine getItem_tuple_st pt (Heap.IsSliceOf.new _ vl vu vs) pl pu ps (fun e1 => ⟨.ref ad, H4, I5, rfl, q1 e1⟩) (fun e1 => ?_) hk1 (by omega)
    refine ⟨.ref _, _, I5.laid (t' := s4.toks) (o := .tup ws.reverse) (fun b ob q => Heap.get?_push_of_some _ q) (Nat.le_refl _) ?_, rfl, q2 e1 _ (I5.hok.fresh (Nat.le_refl _))⟩
    exact ⟨by rw [List.length_reverse]; exact hz, _, r.reverse, IsTup.new _ _⟩
  · subst ek
    obtain ⟨its, r, ht, hz⟩ := I5.list hl
    have hlen := r.length
    refine tail_any (ops := [.ref ad, .ref s4.heap.objs.size]) ht.isList.typeIs (PySem.slot_list_getitem.lookup) ?_ (by with_unfolding_all rfl)
    refine wpAny_getItem_list_slice ht.isList (Heap.IsSliceOf.new _ vl vu vs) pl pu ps (by decide) ?_ (by rw [List.size_toArray]; omega)
    rw [PySem.W.krv_pick]
    refine ⟨.ref _, _, I5.laid (t' := s4.toks) (o := .lst ws.reverse) (fun b ob q => Heap.get?_push_of_some _ q) (Nat.le_refl _) ?_, rfl, q2 _ (I5.hok.fresh (Nat.le_refl _))⟩
    exact ⟨by rw [List.length_reverse]; exact hz, _, 0, r.reverse, Heap.get?_push_size _ rfl⟩
end
end VS

set_option maxRecDepth 100000
namespace VS
open PySem L2 SeqAt
section
variable {X : Cx} {W : WX} {M M1 M2 M3 M4 V1 V2 V3 Rs R1 R2 R3 : List Nat} {e a b c tg : Expr} {es ifs : List Expr} {ca cb cc : CE} {cs src : CA} {ct : CT} {pos p : Pos} {g : D → Env → Option Env}
variable {pins : List (Addr × Obj)} {σ σ' : L2.St} {H H1 H2 H' : Hp} {s : Shared} {C C' : Ctx}
/-! ### x[::k] -/
def pStep : D → D → Option D
  | .tup ds, .int k => if imms ds then (if k = 1 then some (.tup ds) else if k = -1 then some (.tup ds.reverse) else none) else none
  | .lst _ ds, .int k => if imms ds && decide (k = -1) then some (.lst .m ds.reverse) else none
  | _, _ => none
theorem imms_all : ∀ {ds : List D}, imms ds = ds.all D.imm
  | [] => rfl
  | d :: ds => by rw [imms, List.all_cons, imms_all]
theorem imms_rev {ds : List D} (h : imms ds = true) : imms ds.reverse = true := by
  rw [imms_all] at h ⊢
  rw [List.all_reverse]; exact h
theorem reps_rev : ∀ {ds : List D} {vs : List V}, Reps C H ds vs [] → Reps C H ds.reverse vs.reverse []
  | [], vs, ⟨h1, h2⟩ => by subst h1; exact ⟨rfl, rfl⟩
  | d :: ds, vs, ⟨v, vs', f1, f2, e, r, rs, e2⟩ => by
    obtain ⟨z1, z2⟩ := List.append_eq_nil_iff.mp e2.symm
    subst e z1 z2
    rw [List.reverse_cons, List.reverse_cons]
    exact reps_append (f := []) (g := []) (reps_rev rs) ⟨v, [], [], [], rfl, r, ⟨rfl, rfl⟩, rfl⟩
theorem step_ok {dx dy d : D} {x y : V} {fx fy : List Addr} {Q : VK} (hC : C.At X) (hF : Fr C H) (r1 : Rep C H dx x fx) (r2 : Rep C H dy y fy) (e : pStep dx dy = some d) (k : Comes C H d Q) : ∃ n, y = .int n ∧ rStep X.K x n H Q := by
  unfold pStep at e
  split at e
  · rename_i ds n
    obtain ⟨rfl, _⟩ := r2
    obtain ⟨a, vs, rfl, q, rz⟩ := rep_tup hC r1
    split at e
    case isFalse => cases e
    rename_i hi
    have ez := rz.imm hi
    subst ez
    by_cases h1 : n = 1
    · subst h1
      cases e
      exact ⟨1, rfl, .inl rfl, a, vs, rfl, .inl ⟨q, fun _ => k.here ⟨a, vs, rfl, by rw [hC.1]; exact q, rz⟩, fun z => (by cases z)⟩⟩
    · rw [if_neg h1] at e
      by_cases h2 : n = -1
      · subst h2
        cases e
        exact ⟨-1, rfl, .inr rfl, a, vs, rfl, .inl ⟨q, fun z => (by cases z), fun _ p hp => k.tup (reps_rev rz) (imms_rev hi) hp⟩⟩
      · rw [if_neg h2] at e; cases e
  · rename_i g ds n
    obtain ⟨rfl, _⟩ := r2
    obtain ⟨a, vs, f, rfl, q, rz⟩ := rep_list hC hF r1
    split at e
    case isFalse => cases e
    rename_i hi
    cases e
    simp only [Bool.and_eq_true, decide_eq_true_eq] at hi
    obtain ⟨hi, rfl⟩ := hi
    have ez := rz.imm hi
    subst ez
    exact ⟨-1, rfl, .inr rfl, a, vs, rfl, .inr ⟨q, rfl, fun p hp => k.lst (reps_rev rz) (imms_rev hi) hp⟩⟩
  · cases e
theorem so_step {p3 : Pos} (ha : SB X W M1 R1 a ca) (hb : SB X W M2 R2 b cb) (hd : djB R1 M2 = true) : SO X W (M1 ++ M2) (.Subscript a (.Slice none none (some b) p3) pos) (c2 pStep ca cb) := by
  obtain ⟨ta, tb, pa, pb, q⟩ := two_go ha hb hd
  refine ⟨_, pe_step pa pb, fun C fs env σ H tf Q hC G po => q C fs env σ H tf _ hC G ?_⟩
  unfold c2 at po
  cases e1 : cTwo ca cb env with
  | err => rw [e1] at po; exact po
  | ex x env' => rw [e1] at po; exact po
  | ok d env' =>
    rw [e1] at po
    intro x y fs' H' f1 f2 own G' s r1 r2 i1 i2
    have po' : PostO W C (M1 ++ M2) tf fs env σ H Q (R.of (pStep d.1 d.2) env') := po
    cases e2 : pStep d.1 d.2 with
    | none => rw [e2] at po'; exact po'.elim
    | some z => rw [e2] at po'; exact step_ok hC G'.fr r1 r2 e2 (comes_post (own := own) G' s po')

/-! ### x.split(sep) -/
def pSplit : D → D → Option D
  | .str x, .str y => if (y.length == 0) = false ∧ x.length + 2 ≤ sizeLine then some (.lst .m ((Txt.split x y).map D.str)) else none
  | _, _ => none
def cSplit (ca cb : CE) : CE := fun env => (ca env).bind fun d env => match d with
  | .str x => (cb env).bind fun y env => R.of (pSplit (.str x) y) env
  | _ => .err
theorem so_split {o : Expr} {apos : Pos} (ha : SB X W M1 R1 o ca) (hb : SB X W M2 R2 e cb) (hs : starEach [e] X.env = [(false, eval e X.env)]) (hbase : attributeBase o "split" X.env (eval o X.env) = eval o X.env) (hline : (apos.endLine == pos.line) = true) :
    SO X W (M1 ++ M2) (.Call (.Attribute o "split" apos) [e] [] pos) (cSplit ca cb) := by
  obtain ⟨t, p, q⟩ := ha.go
  obtain ⟨t2, p2, q2⟩ := hb.go
  refine ⟨_, pe_splitAny p p2 hs hbase hline, fun C fs env σ H tf Q hC G po => ?_⟩
  show t σ H fun x H1 => (∃ a, x = .str a) ∧ t2 σ H1 fun y H2 => rSplitAny x [y] H2 Q
  refine q C fs env σ H tf _ hC G ?_
  unfold cSplit at po
  cases e1 : ca env with
  | err => rw [e1] at po; exact po
  | ex x env' => rw [e1] at po; exact fun cv dd fs' H' G' s => po cv dd fs' H' G' (s.weak mem_l fun _ z => z)
  | ok d env1 =>
    rw [e1] at po
    intro v fs1 H1 fp own G1 s1 r1 i1
    have po1 := PostO.step s1 po
    simp only [R.bind] at po1
    cases d with
    | str x =>
      obtain ⟨rfl, _⟩ := r1
      refine ⟨⟨x, rfl⟩, q2 C fs1 env1 σ H1 tf _ hC G1.drop ?_⟩
      simp only at po1
      cases e2 : cb env1 with
      | err => rw [e2] at po1; exact po1
      | ex x env' => rw [e2] at po1; exact po1
      | ok y env2 =>
        rw [e2] at po1
        intro w fs2 H2 f2 own2 G2 s2 r2 _
        simp only [R.of] at po1
        cases e3 : pSplit (.str x) y with
        | none => rw [e3] at po1; exact po1.elim
        | some z =>
          rw [e3] at po1
          unfold pSplit at e3
          split at e3
          · rename_i x' y' ex
            cases ex
            split at e3 <;> cases e3
            rename_i hz
            obtain ⟨rfl, _⟩ := r2
            refine .inl ⟨x, y', rfl, rfl, hz.1, hz.2, fun l hl => ?_⟩
            have k := comes_post (own := own2) G2 s2 po1
            exact k.lst (reps_strs _) (imms_strs _) hl
          · cases e3
    | _ => exact po1.elim

/-! ### dict(list of pairs) -/
def putP (kd : List Key × List D) (k : Key) (x : D) : List Key × List D := match idxK kd.1 k with
  | some j => (kd.1, kd.2.set j x)
  | none => (kd.1 ++ [k], kd.2 ++ [x])
def pairsD : List D → Option (List (Key × D))
  | [] => some []
  | .tup [k, x] :: ds => k.key.bind fun k => (pairsD ds).map fun r => (k, x) :: r
  | _ => none
def mkD (ps : List (Key × D)) : List Key × List D := ps.foldl (fun acc p => putP acc p.1 p.2) ([], [])
def pDictP : List D → Option D
  | [.lst _ ds] => if imms ds then (pairsD ds).map fun ps => .dct .m (mkD ps).1 (mkD ps).2 else none
  | _ => none
theorem put_rep {kvs : List (Key × V)} {kd : List Key × List D} {k : Key} {x : D} {v : V} (h1 : kvs.map (·.1) = kd.1) (hn : kd.1.Nodup) (hr : Reps C H kd.2 (kvs.map (·.2)) []) (rx : Rep C H x v []) :
    (putK kvs k v).map (·.1) = (putP kd k x).1 ∧ (putP kd k x).1.Nodup ∧ Reps C H (putP kd k x).2 ((putK kvs k v).map (·.2)) [] := by
  unfold putP
  cases q : idxK kd.1 k with
  | some j =>
    have q' := q
    rw [← h1] at q'
    have e1 := idx_nodup (v := v) (by rw [h1]; exact hn) q'
    have hj := (idx_val q').2
    have hjd : j < kd.2.length := by rw [reps_length hr]; simpa using hj
    obtain ⟨w', g1, fo, g2, k1, k2, k3, k4⟩ := reps_set hr (j := j) (x := kd.2[j]) (by simp [hjd])
    have z := List.append_eq_nil_iff.mp k3.symm
    have z2 := List.append_eq_nil_iff.mp z.1
    obtain ⟨⟨rfl, rfl⟩, rfl⟩ := And.intro z2 z.2
    refine ⟨?_, hn, ?_⟩
    · rw [e1, map_fst_set, h1]
      have := idx_at q'
      rw [List.getElem?_map] at this; exact this
    · rw [e1, map_snd_set]
      exact k4 H x v [] (.refl H) (fun _ z => nomatch z) rx
  | none =>
    have q' := q
    rw [← h1] at q'
    have e1 := putK_new v (idx_none q')
    refine ⟨by rw [e1, List.map_append, h1]; rfl, ?_, ?_⟩
    · refine List.nodup_append.mpr ⟨hn, by simp, fun x hx y hy e => ?_⟩
      simp at hy; subst hy; subst e
      exact idx_not q hx
    · rw [e1, List.map_append]
      exact reps_append (f := []) (g := []) hr ⟨v, [], [], [], rfl, rx, ⟨rfl, rfl⟩, rfl⟩
theorem pairs_rep (hC : C.At X) : ∀ {ds : List D} {ps : List (Key × D)} {vs : List V}, pairsD ds = some ps → imms ds = true → Reps C H ds vs [] → ∃ (as : List Addr) (kvs : List (Key × V)), vs = as.map V.ref ∧ Paired (fun p kv => SqT X.K H p [kV kv.1, kv.2]) as kvs ∧
    kvs.map (·.1) = ps.map (·.1) ∧ Reps C H (ps.map (·.2)) (kvs.map (·.2)) []
  | [], ps, vs, h, _, ⟨h1, _⟩ => by cases h; subst h1; exact ⟨[], [], rfl, .nil, rfl, rfl, rfl⟩
  | d :: ds, ps, vs, h, hi, ⟨v, vs', f1, f2, e, r, rs, e2⟩ => by
    obtain ⟨z1, z2⟩ := List.append_eq_nil_iff.mp e2.symm
    subst e z1 z2
    unfold pairsD at h
    split at h
    · rename_i he; cases he
    · rename_i k x ds' he
      cases he
      obtain ⟨ky, h1, h2⟩ := Option.bind_eq_some_iff.mp h
      obtain ⟨ps', h3, rfl⟩ := Option.map_eq_some_iff.mp h2
      rw [imms, Bool.and_eq_true] at hi
      obtain ⟨as, kvs, q1, q2, q3, q4⟩ := pairs_rep hC h3 hi.2 rs
      obtain ⟨ad, ws, rfl, n, rw⟩ := r
      obtain ⟨u1, us, g1, g2, ew, ru, rus, eg⟩ := rw
      obtain ⟨u2, us2, g3, g4, ew2, ru2, ⟨ew3, eg3⟩, eg2⟩ := rus
      obtain ⟨y1, y2⟩ := List.append_eq_nil_iff.mp eg.symm
      subst y1 y2
      obtain ⟨y3, y4⟩ := List.append_eq_nil_iff.mp eg2.symm
      subst y3 ew3 ew2 ew q1
      have ek := key_of h1 ru
      subst ek
      exact ⟨ad :: as, (ky, u2) :: kvs, rfl, .cons (by rw [← hC.1]; exact n) q2, by simp [q3], u2, _, [], [], rfl, ru2, q4, rfl⟩
    · cases h
theorem merge_rep : ∀ {ps : List (Key × D)} {kvs acc : List (Key × V)} {kd : List Key × List D}, kvs.map (·.1) = ps.map (·.1) → Reps C H (ps.map (·.2)) (kvs.map (·.2)) [] → acc.map (·.1) = kd.1 → kd.1.Nodup → Reps C H kd.2 (acc.map (·.2)) [] →
    (mergeK acc kvs).map (·.1) = (ps.foldl (fun acc p => putP acc p.1 p.2) kd).1 ∧ (ps.foldl (fun acc p => putP acc p.1 p.2) kd).1.Nodup ∧ Reps C H (ps.foldl (fun acc p => putP acc p.1 p.2) kd).2 ((mergeK acc kvs).map (·.2)) []
  | [], kvs, acc, kd, h1, h2, h3, h4, h5 => by
    cases kvs with
    | nil => exact ⟨h3, h4, h5⟩
    | cons a b => cases h1
  | (k, x) :: ps, kvs, acc, kd, h1, h2, h3, h4, h5 => by
    cases kvs with
    | nil => cases h1
    | cons kv kvs =>
      obtain ⟨k', v⟩ := kv
      simp only [List.map_cons, List.cons.injEq] at h1
      obtain ⟨hk, h1⟩ := h1
      subst hk
      obtain ⟨v', vs', f1, f2, e, r, rs, e2⟩ := h2
      cases e
      obtain ⟨z1, z2⟩ := List.append_eq_nil_iff.mp e2.symm
      subst z1 z2
      obtain ⟨p1, p2, p3⟩ := put_rep (k := k') (x := x) (v := v) h3 h4 h5 r
      exact merge_rep (ps := ps) (kvs := kvs) (acc := putK acc k' v) (kd := putP kd k' x) h1 rs p1 p2 p3
theorem od_dictP (hc : X.calm = true) : ODL X (.type "dict") pDictP := by
  refine ODL.of (call_dictP hc) fun xs H Q ⟨C, ds, fx, d, hC, hF, rs, e, k⟩ => ?_
  unfold pDictP at e
  split at e
  · rename_i g zs
    split at e
    case isFalse => cases e
    rename_i hi
    obtain ⟨ps, h1, rfl⟩ := Option.map_eq_some_iff.mp e
    obtain ⟨v, rfl, r⟩ := reps1 rs
    obtain ⟨a, vs, f, rfl, q, rz⟩ := rep_list hC hF r
    have ez := rz.imm hi
    subst ez
    obtain ⟨as, kvs, rfl, q2, q3, q4⟩ := pairs_rep hC h1 hi rz
    obtain ⟨m1, m2, m3⟩ := merge_rep (acc := []) (kd := ([], [])) q3 q4 rfl .nil ⟨rfl, rfl⟩
    refine ⟨a, as, kvs, rfl, q, q2, fun p hp => ?_⟩
    have le := Le.new (o := .dK (mergeK [] kvs)) hp
    exact k (.ref p) _ [p] le ⟨p, _, [p], [], rfl, ⟨upd_same, rfl⟩, ⟨m1, m2⟩, m3.le le, .inl rfl, rfl⟩ (by simp) fun a ha => by simp at ha; subst ha; exact hp
  · cases e
end
end VS

set_option maxRecDepth 100000
namespace VS
open PySem L2 SeqAt PySem.Spec PyProof.Rows
section
variable {X : Cx} {W : WX} {M M1 M2 M3 M4 V1 V2 V3 Rs R1 R2 R3 : List Nat} {e a b c tg o : Expr} {es ifs : List Expr} {ca cb cc : CE} {cs src : CA} {ct : CT} {pos p apos cpos : Pos} {cl : CL} {i : Nat}
theorem so_mutA (ho : SL X W i M1 o cl) (ha : SAO X W M2 (e :: es) cs)
    (hi : djB [i] M2 = true) (hbase : attributeBase o "append" X.env (eval o X.env) = eval o X.env)
    (hfew : ((backTo cpos (starEach (e :: es) X.env)).all (fun x => !x.1) && (backToKw cpos (keywordEach [] X.env)).all (fun x => x.1.isSome)
      && decide ((e :: es).length + ([] : List Keyword).length + (if ([] : List Keyword).isEmpty then 0 else 1) < 30)) = true)
    (hline : (apos.endLine == cpos.line) = true) (hs : starEach (e :: es) X.env = (false, eval e X.env) :: starEach es X.env) (hplain : (backTo cpos (starEach es X.env)).any (·.1) = false) :
    SO X W (M1 ++ (M2 ++ [i])) (.Call (.Attribute o "append" apos) (e :: es) [] cpos) (cMut i kdL mAppend cl cs) :=
  so_mut mu_append PySem.F.plainAttrs_list PySem.F.slot_list_append PySem.F.type_list_append mt_append ho ha hi hbase hfew hline hs hplain
/-- a def whose promise asks what cannot be -/
theorem fn_err {P : Program} {w : World} {K : PySem.W.Frag} {mg : Str → Option Value} {base : Heap} {x qual : Str} {st : Stmt} {f : Addr} {fd : FuncData} {N ps : List Str} {k : Nat} {io : List Bool} (F : Fun K x qual st f fd) (S : FnScope N ps (defScope st)) (hio : io.length = ps.length) :
    FnOk P w K mg base (L2.CX P w) (k + 1) f fd ps (spF K mg io (fun _ => .err)) := by
  refine F.okX S (fun vs H Q E h => by obtain ⟨Lk, ds, fps, hl, _⟩ := h; rw [hl, hio]) fun cdv A outer s H vs Q E hr h => ?_
  obtain ⟨Lk, ds, fps, hl, hA, nd, hk, po⟩ := h
  exact po.elim
end
end VS

set_option maxRecDepth 100000
namespace VS
open PySem L2 SeqAt
section
variable {α β : Type} (env : Env) (i j : Nat) (c ca cb cc : CE) (cs : CA) (ct : CT) (ta tb : CT) (d : D) (p q : D → D → Option D) (p1 : D → Option D) (pl : List D → Option D) (s1 s2 : CS) (g : D → Env → Option Env)
@[simp] theorem e_addI (i j : Int) : pAdd (.int i) (.int j) = some (.int (i + j)) := by simp [pAdd, orP2, pI]
@[simp] theorem e_addT (xs ys : List D) : pAdd (.tup xs) (.tup ys) = if imms xs && imms ys && decide (xs.length + ys.length ≤ sizeLine) then some (.tup (xs ++ ys)) else none := by
  simp [pAdd, orP2, pI, pCatL, pCatT, pCatS]
@[simp] theorem e_addL (g g' : Fl) (xs ys : List D) : pAdd (.lst g xs) (.lst g' ys) = if imms xs && imms ys && decide (xs.length + ys.length ≤ sizeLine) then some (.lst .m (xs ++ ys)) else none := by
  simp [pAdd, orP2, pI, pCatL, pCatT, pCatS]
@[simp] theorem e_pno : pNo env = .ok none env := (rfl)
@[simp] theorem e_pat : pAt ca env = (ca env).bind fun d env => match d with
  | .int i => .ok (some i) env
  | _ => .err := (rfl)
@[simp] theorem e_sl (lo hi : Env → R (Option Int)) : cSl ca lo hi env = (ca env).bind fun d env => (lo env).bind fun l env => (hi env).bind fun h env => R.of (pSl d l h) env := (rfl)
@[simp] theorem e_sl1 (ds : List D) (lo hi : Option Int) : pSl (.tup ds) lo hi = if imms ds then some (.tup (cutD ds lo hi)) else none := (rfl)
@[simp] theorem e_sl2 (g : Fl) (ds : List D) (lo hi : Option Int) : pSl (.lst g ds) lo hi = if imms ds then some (.lst .m (cutD ds lo hi)) else none := (rfl)
@[simp] theorem e_st1 (ds : List D) : pStep (.tup ds) (.int 1) = if imms ds then some (.tup ds) else none := (rfl)
@[simp] theorem e_st2 (ds : List D) : pStep (.tup ds) (.int (-1)) = if imms ds then some (.tup ds.reverse) else none := (rfl)
@[simp] theorem e_st3 (g : Fl) (ds : List D) : pStep (.lst g ds) (.int (-1)) = if imms ds then some (.lst .m ds.reverse) else none := by simp [pStep]
@[simp] theorem e_split : cSplit ca cb env = (ca env).bind fun d env => match d with
  | .str x => (cb env).bind fun y env => R.of (pSplit (.str x) y) env
  | _ => .err := (rfl)
@[simp] theorem e_lc (vs : List Nat) (ct : CT) (ce : CE) (src : CA) : cLc src vs g ct ce env = (src env).bind fun ds env1 =>
  if clearE env1 vs = true ∧ ds.length ≤ sizeLine then (match lcRun vs g ct ce ds (wipeE env1 vs) with
    | some r => .ok (.lst .m r.1) (backE env1 r.2 vs)
    | none => .err) else .err := (rfl)
@[simp] theorem e_anyD : iAnyD c env = (c env).bind fun d env => match d with
  | .lst _ ds => if imms ds then .ok ds env else .err
  | .tup ds => if imms ds then .ok ds env else .err
  | _ => .err := (rfl)
@[simp] theorem e_enumD : iEnumD c env = (c env).bind fun d env => match d with
  | .lst _ ds => if imms ds then .ok (numD 0 ds) env else .err
  | _ => .err := (rfl)
@[simp] theorem e_zipD : iZipD cs env = (cs env).bind fun ds env => R.of (zipP ds) env := (rfl)
@[simp] theorem e_rng1 : iRange1 cs env = (cs env).bind fun ds env => R.of (rngItems ds) env := (rfl)
@[simp] theorem e_wipe0 : wipeE env [] = env := (rfl)
@[simp] theorem e_wipe1 (v : Nat) (vs : List Nat) : wipeE env (v :: vs) = (wipeE env vs).set v none := (rfl)
@[simp] theorem e_back0 (e1 : Env) : backE e1 env [] = env := (rfl)
@[simp] theorem e_back1 (e1 : Env) (v : Nat) (vs : List Nat) : backE e1 env (v :: vs) = (backE e1 env vs).set v (e1.getD v none) := (rfl)
@[simp] theorem e_clear0 : clearE env [] = true := (rfl)
@[simp] theorem e_clear1 (v : Nat) (vs : List Nat) : clearE env (v :: vs) = ((match env[v]? with
  | some (some d) => d.imm
  | _ => true) && clearE env vs) := (rfl)
@[simp] theorem e_yes : cYes env = .ok true env := (rfl)
@[simp] theorem e_gtup (n : Nat) (gs : List D → Env → Option Env) (ds : List D) : gTupD n gs (.tup ds) env = if ds.length = n then gs ds env else none := by
  first | rfl | simp [gTupD]
@[simp] theorem e_gnil : gNilD [] env = some env := (rfl)
@[simp] theorem e_gcons (gs : List D → Env → Option Env) (ds : List D) : gConsD g gs (d :: ds) env = (g d env).bind fun env => gs ds env := (rfl)
@[simp] theorem e_isN1 : pIs .non .non = some (.bl true) := (rfl)
@[simp] theorem e_isN2 (s : Str) : pIs (.str s) .non = some (.bl false) := (rfl)
@[simp] theorem e_isN3 (g : Fl) (ds : List D) : pIs (.lst g ds) .non = some (.bl false) := (rfl)
@[simp] theorem e_isNn1 : pIsNot .non .non = some (.bl false) := (rfl)
@[simp] theorem e_isNn2 (s : Str) : pIsNot (.str s) .non = some (.bl true) := (rfl)
@[simp] theorem e_eqS (i j : Str) : pEq (.str i) (.str j) = some (.bl (i == j)) := (rfl)
@[simp] theorem e_neS (i j : Str) : pNe (.str i) (.str j) = some (.bl (!(i == j))) := (rfl)
@[simp] theorem e_neB (i j : Bool) : pNe (.bl i) (.bl j) = some (.bl (!(i == j))) := (rfl)
@[simp] theorem e_eqB (i j : Bool) : pEq (.bl i) (.bl j) = some (.bl (i == j)) := (rfl)
@[simp] theorem e_list1 (g : Fl) (ds : List D) : pList [.lst g ds] = if imms ds then some (.lst .m ds) else none := (rfl)
@[simp] theorem e_list2 (ds : List D) : pList [.tup ds] = if imms ds then some (.lst .m ds) else none := (rfl)
@[simp] theorem e_tup1 (g : Fl) (ds : List D) : pTuple [.lst g ds] = if imms ds then some (.tup ds) else none := (rfl)
@[simp] theorem e_tup2 (ds : List D) : pTuple [.tup ds] = if imms ds then some (.tup ds) else none := (rfl)
@[simp] theorem e_mut (kd : D → Bool) (mp : D → List D → Option (D × D)) (cl : CL) : cMut i kd mp cl cs env = (cl env).bind fun dF env => if kd dF.1 then (cs env).bind fun ds env => match mp dF.1 ds with
  | some dr => .ok dr.2 (env.set i (some (dF.2 dr.1)))
  | none => .err
  else .err := (rfl)
@[simp] theorem e_lvar : lVar i env = match env[i]? with
  | some (some d) => .ok (d, id) env
  | _ => .err := (rfl)
@[simp] theorem e_kdL (ds : List D) : kdL (.lst .m ds) = true := (rfl)
@[simp] theorem e_app (ds : List D) (x : D) : mAppend (.lst .m ds) [x] = if ds.length < sizeLine then some (.lst .m (ds ++ [x]), .non) else none := (rfl)
@[simp] theorem e_sfor (src : CA) (body : CS) : sFor src g body env = match src env with
  | .ok ds env => forRun g body ds env
  | .ex x env => .ex x env
  | .err => .err := (rfl)
theorem for_nx {g : D → Env → Option Env} {body : CS} {d : D} {ds : List D} {env env1 env2 : Env} (h1 : g d env = some env1) (h2 : body env1 = .nx env2) : forRun g body (d :: ds) env = forRun g body ds env2 := by simp [forRun, h1, h2]
theorem for_rt {g : D → Env → Option Env} {body : CS} {d r : D} {ds : List D} {env env1 env2 : Env} (h1 : g d env = some env1) (h2 : body env1 = .rt r env2) : forRun g body (d :: ds) env = .rt r env2 := by simp [forRun, h1, h2]
end
end VS

set_option maxRecDepth 100000
namespace VS
open PySem L2 SeqAt
/-- a comprehension that changes nothing -/
theorem lc_map {vs : List Nat} {g : D → Env → Option Env} {ce : CE} {env : Env} {y : D → D} : ∀ {ds : List D}, (∀ d ∈ ds, ∃ env1, g d env = some env1 ∧ env1.length = env.length ∧ ce env1 = .ok (y d) env1 ∧ wipeE env1 vs = env) → lcRun vs g cYes ce ds env = some (ds.map y, env)
  | [], _ => rfl
  | d :: ds, h => by
    obtain ⟨env1, h1, h2, h3, h4⟩ := h d (by simp)
    have ih := lc_map (vs := vs) (g := g) (ce := ce) (env := env) (y := y) (ds := ds) fun d hd => h d (by simp [hd])
    unfold lcRun
    simp [h1, h2, h3, h4, ih]
/-- .. with a test -/
theorem lc_filter {vs : List Nat} {g : D → Env → Option Env} {ct : CT} {ce : CE} {env : Env} {y : D → D} {t : D → Bool} : ∀ {ds : List D}, (∀ d ∈ ds, ∃ env1, g d env = some env1 ∧ env1.length = env.length ∧ ct env1 = .ok (t d) env1 ∧ (t d = true → ce env1 = .ok (y d) env1) ∧ wipeE env1 vs = env) →
    lcRun vs g ct ce ds env = some ((ds.filter t).map y, env)
  | [], _ => rfl
  | d :: ds, h => by
    obtain ⟨env1, h1, h2, h3, h4, h5⟩ := h d (by simp)
    have ih := lc_filter (vs := vs) (g := g) (ct := ct) (ce := ce) (env := env) (y := y) (t := t) (ds := ds) fun d hd => h d (by simp [hd])
    unfold lcRun
    cases ht : t d with
    | true => rw [ht] at h3; simp [h1, h2, h3, h4 ht, h5, ih, ht]
    | false => rw [ht] at h3; simp [h1, h2, h3, h5, ih, ht]
@[simp] theorem e_sum1 (g : Fl) (ns : List Int) : pSum [.lst g (ns.map D.int)] = some (.int ns.sum) := by simp [pSum]
@[simp] theorem e_all1 (g : Fl) (ns : List Bool) : pAll [.lst g (ns.map D.bl)] = some (.bl (ns.all id)) := by simp [pAll]
/-- a comprehension whose element changes what stands, by an invariant -/
theorem lc_ex {vs : List Nat} {g : D → Env → Option Env} {ce : CE} {Iv : Env → Prop} {Y : D → D → Prop} : ∀ {ds : List D} {env : Env}, Iv env →
    (∀ d ∈ ds, ∀ env, Iv env → ∃ env1 y env2, g d env = some env1 ∧ env1.length = env.length ∧ ce env1 = .ok y env2 ∧ Y d y ∧ Iv (wipeE env2 vs)) →
    ∃ ys env', lcRun vs g cYes ce ds env = some (ys, env') ∧ Iv env' ∧ Paired Y ds ys
  | [], env, h0, _ => ⟨[], env, rfl, h0, .nil⟩
  | d :: ds, env, h0, h => by
    obtain ⟨env1, y, env2, h1, h2, h3, h4, h5⟩ := h d (by simp) env h0
    obtain ⟨ys, env', k1, k2, k3⟩ := lc_ex (vs := vs) (g := g) (ce := ce) (Iv := Iv) (Y := Y) (ds := ds) h5 fun d hd => h d (by simp [hd])
    refine ⟨y :: ys, env', ?_, k2, .cons h4 k3⟩
    unfold lcRun
    simp [h1, h2, h3, k1]
/-- a loop that goes through, by an invariant -/
theorem for_ex {g : D → Env → Option Env} {body : CS} {Iv : Env → Prop} : ∀ {ds : List D} {env : Env}, Iv env →
    (∀ d ∈ ds, ∀ env, Iv env → ∃ env1 env2, g d env = some env1 ∧ body env1 = .nx env2 ∧ Iv env2) → ∃ env', forRun g body ds env = .nx env' ∧ Iv env'
  | [], env, h0, _ => ⟨env, rfl, h0⟩
  | d :: ds, env, h0, h => by
    obtain ⟨env1, env2, h1, h2, h3⟩ := h d (by simp) env h0
    obtain ⟨env', k1, k2⟩ := for_ex (g := g) (body := body) (Iv := Iv) (ds := ds) h3 fun d hd => h d (by simp [hd])
    exact ⟨env', (for_nx h1 h2).trans k1, k2⟩
theorem e_rng (j : Int) (h0 : -(2 ^ 62) ≤ j) (h : j < 2 ^ 62) : rngItems [.int j] = some ((List.range j.toNat).map fun i => .int (i : Nat)) := if_pos ⟨h0, h⟩
theorem for_exN {g : D → Env → Option Env} {body : CS} {Iv : Nat → Env → Prop} : ∀ {ds : List D} {env : Env} {k : Nat}, Iv k env →
    (∀ i d, k ≤ i → i < k + ds.length → d ∈ ds → ∀ env, Iv i env → ∃ env1 env2, g d env = some env1 ∧ body env1 = .nx env2 ∧ Iv (i + 1) env2) → ∃ env', forRun g body ds env = .nx env' ∧ Iv (k + ds.length) env'
  | [], env, k, h0, _ => ⟨env, rfl, h0⟩
  | d :: ds, env, k, h0, h => by
    obtain ⟨env1, env2, h1, h2, h3⟩ := h k d (Nat.le_refl _) (by simp) (by simp) env h0
    obtain ⟨env', k1, k2⟩ := for_exN (g := g) (body := body) (Iv := Iv) (ds := ds) h3 fun i d hi hj hd => h i d (by omega) (by simp; omega) (by simp [hd])
    refine ⟨env', (for_nx h1 h2).trans k1, ?_⟩
    have : k + (d :: ds).length = k + 1 + ds.length := by simp; omega
    rw [this]; exact k2
theorem look_idx : ∀ {ks : List Key} {ds : List D} {k : Key} {j : Nat}, idxK ks k = some j → ks.length = ds.length → lookD ks ds k = ds[j]? ∧ j < ds.length
  | [], ds, k, j, h, _ => by cases h
  | k0 :: ks, [], k, j, h, hl => by cases hl
  | k0 :: ks, d :: ds, k, j, h, hl => by
    simp only [idxK] at h
    unfold lookD
    by_cases e : k0 = k
    · rw [if_pos e] at h ⊢; cases h; exact ⟨by simp, by simp⟩
    · rw [if_neg e] at h ⊢
      obtain ⟨j', h', rfl⟩ := Option.map_eq_some_iff.mp h
      obtain ⟨h1, h2⟩ := look_idx h' (by simpa using hl)
      exact ⟨by simpa using h1, by simpa using h2⟩
theorem idx_mem : ∀ {ks : List Key} {k : Key}, k ∈ ks → ∃ j, idxK ks k = some j
  | [], k, h => by cases h
  | k0 :: ks, k, h => by
    simp only [idxK]
    by_cases e : k0 = k
    · exact ⟨0, by rw [if_pos e]⟩
    · rw [if_neg e]
      obtain ⟨j, h⟩ := idx_mem ((List.mem_cons.mp h).resolve_left fun z => e z.symm)
      exact ⟨j + 1, by rw [h]; rfl⟩
/-- what a dict of pairs keeps: all keys, and of its values what holds of all values -/
theorem put_keeps {P : D → Prop} {kd : List Key × List D} {k : Key} {x : D} (hl : kd.1.length = kd.2.length) (hp : ∀ y ∈ kd.2, P y) (hx : P x) :
    (putP kd k x).1.length = (putP kd k x).2.length ∧ (∀ y ∈ (putP kd k x).2, P y) ∧ (∀ q ∈ kd.1, q ∈ (putP kd k x).1) ∧ k ∈ (putP kd k x).1 := by
  unfold putP
  cases q : idxK kd.1 k with
  | some j =>
    refine ⟨by simpa using hl, fun y hy => ?_, fun _ h => h, ?_⟩
    · rcases List.mem_or_eq_of_mem_set hy with z | z
      · exact hp y z
      · rw [z]; exact hx
    · exact List.mem_of_getElem? (idx_at q)
  | none =>
    refine ⟨by simp [hl], fun y hy => ?_, fun _ h => List.mem_append_left _ h, by simp⟩
    rcases List.mem_append.mp hy with z | z
    · exact hp y z
    · simp at z; rw [z]; exact hx
theorem fold_keeps {P : D → Prop} : ∀ {ps : List (Key × D)} {kd : List Key × List D}, kd.1.length = kd.2.length → (∀ y ∈ kd.2, P y) → (∀ p ∈ ps, P p.2) →
    (ps.foldl (fun acc p => putP acc p.1 p.2) kd).1.length = (ps.foldl (fun acc p => putP acc p.1 p.2) kd).2.length ∧ (∀ y ∈ (ps.foldl (fun acc p => putP acc p.1 p.2) kd).2, P y) ∧
      (∀ q ∈ kd.1, q ∈ (ps.foldl (fun acc p => putP acc p.1 p.2) kd).1) ∧ ∀ p ∈ ps, p.1 ∈ (ps.foldl (fun acc p => putP acc p.1 p.2) kd).1
  | [], kd, hl, hp, _ => ⟨hl, hp, fun _ h => h, fun _ h => nomatch h⟩
  | (k, x) :: ps, kd, hl, hp, hx => by
    obtain ⟨a1, a2, a3, a4⟩ := put_keeps (k := k) hl hp (hx (k, x) (by simp))
    obtain ⟨b1, b2, b3, b4⟩ := fold_keeps (ps := ps) a1 a2 fun p hp => hx p (by simp [hp])
    refine ⟨b1, b2, fun q hq => b3 q (a3 q hq), fun p hp => ?_⟩
    rcases List.mem_cons.mp hp with z | z
    · subst z; exact b3 _ a4
    · exact b4 p z
theorem mk_look {P : D → Prop} {ps : List (Key × D)} (h : ∀ p ∈ ps, P p.2) : ∀ p ∈ ps, ∃ x, lookD (mkD ps).1 (mkD ps).2 p.1 = some x ∧ P x := fun p hp => by
  obtain ⟨h1, h2, _, h4⟩ := fold_keeps (P := P) (ps := ps) (kd := ([], [])) rfl (fun _ z => nomatch z) h
  obtain ⟨j, hj⟩ := idx_mem (h4 p hp)
  obtain ⟨e1, e2⟩ := look_idx hj h1
  have e3 : ((mkD ps).2)[j]? = some ((mkD ps).2[j]'e2) := List.getElem?_eq_getElem e2
  exact ⟨_, e1.trans e3, h2 _ (List.getElem_mem e2)⟩
end VS

set_option maxRecDepth 100000
namespace VS
open PySem L2 SeqAt PySem.Spec PyProof.Rows

/-! ### fields -/
def lookF : List Str → List D → Str → Option D
  | n :: ns, d :: ds, f => if n = f then some d else lookF ns ds f
  | _, _, _ => none
def idxF : List Str → Str → Option Nat
  | [], _ => none
  | n :: ns, f => if n = f then some 0 else (idxF ns f).map (· + 1)
def fldD (c f : Str) : D → Option D
  | .obj _ c' ns ds => if c' = c then lookF ns ds f else none
  | _ => none
/-- a field may be read of the class c -/
def FldT (K : PySem.W.Frag) (mg : Str → Option Value) (c f : Str) : Prop := ∃ Ca, mg c = some (.ref Ca) ∧ Cls K Ca ∧ NoAttr K Ca f
section
variable {X : Cx} {W : WX} {M M1 M2 M3 V1 V2 V3 Rs R1 R2 R3 : List Nat} {e a b c tg o : Expr} {es : List Expr} {ca cb cc : CE} {cs : CA} {pos p apos : Pos} {cl : CL} {i : Nat}
variable {pins : List (Addr × Obj)} {σ : L2.St} {H H1 H2 H' : Hp} {s : Shared} {C C' : Ctx} {fs fs1 fs2 : FPs} {env env1 env2 : Env} {tf tf' own : List Addr}
theorem lookF_rep : ∀ {fl : List (Str × V)} {ds : List D} {fp : List Addr} {f : Str} {d : D}, Reps C H ds (fl.map (·.2)) fp → lookF (fl.map (·.1)) ds f = some d →
    ∃ v g1 h g2, fl.lookup f = some v ∧ Rep C H d v h ∧ fp = g1 ++ h ++ g2
  | [], ds, fp, k, d, r, h => by simp [lookF] at h
  | kv :: kvs, [], fp, k, d, r, h => by simp [lookF] at h
  | (k0, v0) :: kvs, d0 :: ds, fp, k, d, ⟨v, vs', f1, f2, e, r, rs, e2⟩, h => by
    simp only [List.map_cons, List.cons.injEq] at e
    obtain ⟨rfl, rfl⟩ := e
    simp only [List.map_cons, lookF] at h
    by_cases hk : k0 = k
    · rw [if_pos hk] at h
      cases h
      subst hk
      exact ⟨v0, [], f1, f2, by simp [List.lookup], r, by simpa using e2⟩
    · rw [if_neg hk] at h
      obtain ⟨w, g1, f, g2, h1, h2, h3⟩ := lookF_rep rs h
      have hb : (k == k0) = false := by simpa using fun z : k = k0 => hk z.symm
      exact ⟨w, f1 ++ g1, f, g2, by simp only [List.lookup, hb]; exact h1, h2, by rw [e2, h3]; simp [List.append_assoc]⟩
theorem lookF_none : ∀ {fl : List (Str × V)} {ds : List D} {fp : List Addr} {f : Str}, Reps C H ds (fl.map (·.2)) fp → lookF (fl.map (·.1)) ds f = none → fl.lookup f = none
  | [], ds, fp, k, r, h => rfl
  | (k0, v0) :: kvs, [], fp, k, ⟨h1, _⟩, h => by simp at h1
  | (k0, v0) :: kvs, d0 :: ds, fp, k, ⟨v, vs', f1, f2, e, r, rs, e2⟩, h => by
    simp only [List.map_cons, List.cons.injEq] at e
    obtain ⟨rfl, rfl⟩ := e
    simp only [List.map_cons, lookF] at h
    by_cases hk : k0 = k
    · rw [if_pos hk] at h; cases h
    · rw [if_neg hk] at h
      have hb : (k == k0) = false := by simpa using fun z : k = k0 => hk z.symm
      simp only [List.lookup, hb]
      exact lookF_none rs h
theorem ins_getR {P : Program} {w : World} {h : Heap} {a Ca dx : Addr} {fl : List (Str × V)} (hok : HOk P w H h) (e : Rd H a (.ins Ca dx fl)) : ∃ mA, ObjM h a dx Ca mA ∧ (∀ f, RelO (fl.lookup f) (mA f)) := by
  obtain ⟨d, z, ne, ob, mA, n, r, q⟩ := (show ObjOk P w H h a (.ins Ca dx fl) from e.ok hok)
  exact ⟨mA, ⟨ob, n, ne⟩, r⟩
theorem getattrR {b : Bool} {a Ca dx : Addr} {fl : List (Str × V)} {f : Str} {v : V} {A : Around} {E : Value → Shared → Prop} {Q : Value → Shared → Prop} (I : Inv X pins σ H s) (e : Rd H a (.ins Ca dx fl)) (c : Cls X.K Ca) (n : NoAttr X.K Ca f) (l : fl.lookup f = some v)
    (h : ∀ u s', Inv X pins σ H s' → RelV v u → Q u s') : wpAny (model X.prog X.w) A (getAttr (.ref a) f b) Q E s := by
  obtain ⟨mA, O, r⟩ := ins_getR I.hok e
  obtain ⟨u, hu, ru⟩ := RelO.some_of (v := v) (o := mA f) (by rw [← l]; exact r f)
  exact get_map I.kIn O (c.get f) c.hd n hu (handed_of ru) (h u _ (I.tok _) ru)
theorem getmethR {m : Str} {a Ca dx g : Addr} {fl : List (Str × V)} {A : Around} {E : Value → Shared → Prop} {pl : Sem Bool} {Q : Value × List Value → Shared → Prop} (I : Inv X pins σ H s) (e : Rd H a (.ins Ca dx fl)) (c : Cls X.K Ca) (k : Meth X.K Ca m g) (l : fl.lookup m = none)
    (h : Q (.ref g, [.ref a]) s) : wpAny (model X.prog X.w) A (getMethod (.ref a) m pl) Q E s := by
  obtain ⟨mA, O, r⟩ := ins_getR I.hok e
  have hn : mA m = none := RelO.none_of (by rw [← l]; exact r m)
  exact get_meth I.kIn O (c.get m) k.at_ k.fn hn h
theorem rep_obj {g : Fl} {cn : Str} {ns : List Str} {ds : List D} {v : V} {fp : List Addr} (hF : Fr C H) (r : Rep C H (.obj g cn ns ds) v fp) :
    ∃ a Ca dx fl f1 f, v = .ref a ∧ clsOf C cn Ca ∧ Rd H a (.ins Ca dx fl) ∧ fl.map (·.1) = ns ∧ Reps C H ds (fl.map (·.2)) f ∧ fp = f1 ++ f := by
  obtain ⟨a, Ca, dx, fl, f1, f2, e, c1, n, q, rs, z, e2⟩ := r
  exact ⟨a, Ca, dx, fl, f1, f2, e, c1, (n.rd hF).rd (fun xs => by intro z; cases z), q, rs, e2⟩
/-- what an attribute's reading asks -/
def tAtt (K : PySem.W.Frag) (ta : TE) (f : Str) : TE := fun σ H Q => ta σ H fun x H1 => ∃ a Ca dx fl v, x = .ref a ∧ Rd H1 a (.ins Ca dx fl) ∧ Cls K Ca ∧ NoAttr K Ca f ∧ fl.lookup f = some v ∧ Q v H1
theorem pe_att {f : Str} {ta : TE} (he : PE X e ta) (hb : attributeBase e f X.env (eval e X.env) = eval e X.env) : PE X (.Attribute e f pos) (tAtt X.K ta f) := by
  refine ⟨fun pins s σ H Q I h => ?_⟩
  refine attr_of hb (thn (he.run pins s σ H _ I h) fun u s1 ⟨x, H1, I1, rx, a, Ca, dx, fl, v, ex, ea, c, n, l, q⟩ => ?_)
  subst ex
  obtain rfl : u = Value.ref a := rx
  exact getattrR I1 ea c n l fun u' s2 I2 ru => ⟨v, H1, I2, ru, q⟩
def cFld (c f : Str) (ca : CE) : CE := fun env => (ca env).bind fun d env => R.of (fldD c f d) env
theorem fldD_inv {c f : Str} {d x : D} (h : fldD c f d = some x) : ∃ g ns ds, d = .obj g c ns ds ∧ lookF ns ds f = some x := by
  unfold fldD at h
  split at h
  · split at h
    · rename_i g c' ns ds hc
      subst hc; exact ⟨g, ns, ds, rfl, h⟩
    · cases h
  · cases h
theorem sb_fld {c f : Str} (T : FldT X.K X.mg c f) (ha : SB X W M Rs e ca) (hb : attributeBase e f X.env (eval e X.env) = eval e X.env) : SB X W M Rs (.Attribute e f pos) (cFld c f ca) := by
  obtain ⟨t, p, q⟩ := ha.go
  refine ⟨tAtt X.K t f, pe_att p hb, fun C fs env σ H tf Q hC G po => q C fs env σ H tf _ hC G ?_⟩
  unfold cFld at po
  cases e1 : ca env with
  | err => rw [e1] at po; exact po
  | ex x env' => rw [e1] at po; exact po
  | ok d env' =>
    rw [e1] at po
    intro v fs' H' fp own G' s r i
    have po' : PostB W C M Rs tf fs env σ H Q (R.of (fldD c f d) env') := po
    cases e2 : fldD c f d with
    | none => rw [e2] at po'; exact po'.elim
    | some z =>
      rw [e2] at po'
      obtain ⟨g, ns, ds, rfl, hl⟩ := fldD_inv e2
      obtain ⟨a, Ca, dx, fl, f1, f2, rfl, hcl, rd, hns, rs, ef⟩ := rep_obj G'.fr r
      obtain ⟨Ca', hm, hc, hn⟩ := T
      have : Ca = Ca' := by
        have z1 : C.mg c = some (.ref Ca) := hcl
        rw [hC.2, hm] at z1; cases z1; rfl
      subst this
      rw [← hns] at hl
      obtain ⟨w, g1, h, g2, k1, k2, k3⟩ := lookF_rep rs hl
      refine ⟨a, Ca, dx, fl, w, rfl, rd, hc, hn, k1, po' w fs' H' h own G' s k2 fun x hx => i x ?_⟩
      rw [ef, k3]; simp [hx]
/-! places -/
def kidF (c f : Str) : D → Option (D × (D → D))
  | .obj .m c' ns ds => if c' = c then (idxF ns f).bind fun j => (ds[j]?).map fun x => (x, fun y => .obj .m c' ns (ds.set j y)) else none
  | _ => none
def lFld (c f : Str) (cl : CL) : CL := fun env => (cl env).bind fun dF env => match kidF c f dF.1 with
  | some (x, G) => .ok (x, dF.2 ∘ G) env
  | none => .err
theorem idxF_look : ∀ {fl : List (Str × V)} {f : Str} {j : Nat}, idxF (fl.map (·.1)) f = some j → fl.lookup f = (fl[j]?).map (·.2) ∧ j < fl.length ∧ (fl[j]?).map (·.1) = some f
  | [], k, j, h => by simp [idxF] at h
  | (k0, v0) :: kvs, k, j, h => by
    simp only [List.map_cons, idxF] at h
    by_cases e : k0 = k
    · rw [if_pos e] at h; cases h; subst e
      exact ⟨by simp [List.lookup], by simp, by simp⟩
    · rw [if_neg e] at h
      obtain ⟨j', h', rfl⟩ := Option.map_eq_some_iff.mp h
      obtain ⟨h1, h2, h3⟩ := idxF_look h'
      have hb : (k == k0) = false := by simpa using fun z : k = k0 => e z.symm
      exact ⟨by simp only [List.lookup, hb]; rw [h1]; simp, by simp; omega, by simpa using h3⟩
theorem foc_fld {c f : Str} {d x : D} {G : D → D} {v : V} {fp} (T : FldT X.K X.mg c f) (hC : C.At X) (hF : Fr C H) (r : Rep C H d v fp) (h : kidF c f d = some (x, G)) :
    ∃ v' g1 fp' g2, fp = g1 ++ fp' ++ g2 ∧ Foc C H d v g1 x v' fp' g2 G ∧ ∃ a Ca dx fl, v = .ref a ∧ Rd H a (.ins Ca dx fl) ∧ Cls X.K Ca ∧ NoAttr X.K Ca f ∧ fl.lookup f = some v' := by
  unfold kidF at h
  split at h
  · rename_i c' ns ds
    split at h
    case isFalse => cases h
    rename_i hcc
    subst hcc
    obtain ⟨j, hj, h⟩ := Option.bind_eq_some_iff.mp h
    obtain ⟨x', hx, h⟩ := Option.map_eq_some_iff.mp h
    cases h
    obtain ⟨a, Ca, dx, fl, f1, f2, rfl, hcl, ⟨hH, rfl⟩, hns, rs, _, rfl⟩ := r
    obtain ⟨w', g1, fo, g2, h1, h2, h3, h4⟩ := reps_set rs hx
    obtain ⟨Ca', hm, hc, hn⟩ := T
    have : Ca = Ca' := by
      have z1 : C.mg c' = some (.ref Ca) := hcl
      rw [hC.2, hm] at z1; cases z1; rfl
    subst this
    have hj' := hj
    rw [← hns] at hj'
    obtain ⟨k1, k2, k3⟩ := idxF_look hj'
    rw [List.getElem?_map] at h1
    refine ⟨w', a :: g1, fo, g2, by rw [h3]; simp, ⟨h2, fun H' y f' m k' r' => ?_⟩, a, Ca, dx, fl, rfl, .inl hH, hc, hn, by rw [k1]; exact h1⟩
    have hs := h4 H' y w' f' m (fun b hb => k' b (by simp at hb ⊢; rcases hb with z | z <;> simp [z])) r'
    have e : (fl.map (·.2)).set j w' = fl.map (·.2) := by
      have h1' : (fl.map (·.2))[j]? = some w' := by rw [List.getElem?_map]; exact h1
      obtain ⟨q1, q2⟩ := List.getElem?_eq_some_iff.mp h1'
      conv => rhs; rw [← List.set_getElem_self (as := fl.map (·.2)) (i := j) q1]
      rw [q2]
    rw [e] at hs
    exact ⟨a, Ca, dx, fl, [a], _, rfl, hcl, ⟨by rw [k' a (by simp)]; exact hH, rfl⟩, hns, hs, .inl rfl, by simp⟩
  · cases h
theorem sl_fld {c f : Str} (T : FldT X.K X.mg c f) (ha : SL X W i M e cl) (hb : attributeBase e f X.env (eval e X.env) = eval e X.env) : SL X W i M (.Attribute e f pos) (lFld c f cl) := by
  obtain ⟨t, p, q⟩ := ha.go
  refine ⟨tAtt X.K t f, pe_att p hb, fun C fs env σ H tf Q hC G po => q C fs env σ H tf _ hC G ?_⟩
  unfold lFld at po
  cases e1 : cl env with
  | err => rw [e1] at po; exact po
  | ex x env' => rw [e1] at po; exact po
  | ok dF env1 =>
    rw [e1] at po
    intro v' fs1 H1 d v g1 fp' g2 G1 s1 hd hv hf Fo
    have po1 : PostL W C i M tf fs env σ H Q (match kidF c f dF.1 with
      | some (x, G) => .ok (x, dF.2 ∘ G) env1
      | none => .err) := po
    cases e3 : kidF c f dF.1 with
    | none => rw [e3] at po1; exact po1.elim
    | some xG =>
      rw [e3] at po1
      obtain ⟨x, Gf⟩ := xG
      obtain ⟨v2, h1, f2, h2, ef, F2, a, Ca, dx, fl, rfl, rd, hc, hn, hl⟩ := foc_fld T hC G1.fr Fo.here e3
      refine ⟨a, Ca, dx, fl, v2, rfl, rd, hc, hn, hl, ?_⟩
      refine po1 v2 fs1 H1 d v (g1 ++ h1) f2 (h2 ++ g2) G1 s1 hd hv ?_ (Fo.comp F2 ef)
      rw [hf, ef]; simp [List.append_assoc]
end
end VS

set_option maxRecDepth 100000
namespace VS
open PySem L2 SeqAt PySem.Spec PyProof.Rows
section
variable {X : Cx} {W : WX} {M M1 M2 M3 V1 V2 V3 Rs R1 R2 R3 : List Nat} {e a b c tg o : Expr} {es : List Expr} {ca cb cc : CE} {cs : CA} {pos p apos tpos : Pos} {cl : CL} {i : Nat}
variable {pins : List (Addr × Obj)} {σ : L2.St} {H H1 H2 H3 H' : Hp} {s : Shared} {C C' : Ctx} {fs fs1 fs2 : FPs} {env env1 env2 : Env} {tf tf' own : List Addr}
/-- the nodes at a place and a thing held beside stand apart -/
theorem place_nd {d : D} {g1 fp' g2 fx : List Addr} (G : Good C fs env σ H (fx ++ tf)) (e1 : env[i]? = some (some d)) (e3 : fs.getD i [] = g1 ++ fp' ++ g2) : (fp' ++ fx).Nodup := by
  have nd := G.nd
  have inf : ∀ a ∈ fp', a ∈ fs.getD i [] := fun a ha => by rw [e3]; simp [ha]
  refine List.nodup_append.mpr ⟨?_, (List.nodup_append.mp (List.nodup_append.mp nd).2.1).1, fun a ha b hb eab => ?_⟩
  · have := (List.nodup_append.mp nd).1
    have := (flat_get fs (G.lt e1)).nodup_iff.mp this
    have := (List.nodup_append.mp this).1
    rw [e3] at this
    exact (List.nodup_append.mp (List.nodup_append.mp this).1).2.1
  · subst eab; exact G.apartT (inf a ha) (by simp [hb])
/-- a tree at a place is another one from now on; the thing fx has gone into it -/
theorem place_put {d : D} {v v' : V} {g1 fp' g2 fx fp3 : List Addr} {d' d'' : D} {F : D → D} (G : Good C fs env σ H (fx ++ tf)) (e1 : env[i]? = some (some d)) (e2 : σ[i]? = some (some v)) (e3 : fs.getD i [] = g1 ++ fp' ++ g2)
    (Fo : Foc C H d v g1 d' v' fp' g2 F) (m : Mono H H') (ch : ∀ a o, H a = some o → a ∉ fp' → H' a = some o) (r : Rep C H' d'' v' fp3) (nd : fp3.Nodup) (sub : ∀ a ∈ fp3, a ∈ fp' ∨ a ∈ fx ∨ H a = none) :
    Good C (fs.set i (g1 ++ fp3 ++ g2)) (env.set i (some (F d''))) σ H' tf ∧ Step [i] tf fs env H (fs.set i (g1 ++ fp3 ++ g2)) (env.set i (some (F d''))) H' := by
  have inf : ∀ a ∈ fp', a ∈ fs.getD i [] := fun a ha => by rw [e3]; simp [ha]
  have tfk : ∀ a ∈ tf, H' a = H a := fun a ha => by
    obtain ⟨o, e, _⟩ := G.trk a (by simp [ha])
    rw [e]; exact ch a o e fun hx => G.apartT (inf a hx) (by simp [ha])
  constructor
  · refine G.mut e1 e2 e3 Fo m ch r ?_ ?_ ?_
    · refine List.nodup_append.mpr ⟨nd, (List.nodup_append.mp (List.nodup_append.mp G.nd).2.1).2.1, fun a ha b hb eab => ?_⟩
      subst eab
      rcases sub a ha with z | z | z
      · exact G.apartT (inf a z) (by simp [hb])
      · exact (List.nodup_append.mp (List.nodup_append.mp G.nd).2.1).2.2 a z a hb rfl
      · obtain ⟨o, e, _⟩ := G.trk a (by simp [hb])
        rw [z] at e; cases e
    · intro a ha
      rcases List.mem_append.mp ha with z | z
      · rcases sub a z with w | w | w
        · exact .inl w
        · exact .inr (.inl (by simp [w]))
        · exact .inr (.inr w)
      · exact .inr (.inl (by simp [z]))
    · intro a ha
      rw [tfk a ha]; exact G.trk a (by simp [ha])
  · exact (Step.mut (d := d) G e1 e3 m ch).weak (fun _ z => z) fun x hx => hx

/-! ### a field is stored -/
def stF (c f : Str) : D → D → Option D
  | .obj .m c' ns ds, x => if c' = c ∧ ns.length < 1000 then some (match idxF ns f with
    | some j => .obj .m c' ns (ds.set j x)
    | none => .obj .m c' (ns ++ [f]) (ds ++ [x])) else none
  | _, _ => none
theorem putF_some {f : Str} {v : V} : ∀ {fl : List (Str × V)} {j : Nat}, idxF (fl.map (·.1)) f = some j → putF f v fl = fl.set j (f, v)
  | [], j, h => by simp [idxF] at h
  | (k0, v0) :: kvs, j, h => by
    simp only [List.map_cons, idxF] at h
    by_cases e : k0 = f
    · rw [if_pos e] at h; cases h
      simp [putF, e]
    · rw [if_neg e] at h
      obtain ⟨j', h', rfl⟩ := Option.map_eq_some_iff.mp h
      simp [putF, e, putF_some h']
theorem putF_none {f : Str} {v : V} : ∀ {fl : List (Str × V)}, idxF (fl.map (·.1)) f = none → putF f v fl = fl ++ [(f, v)]
  | [], h => rfl
  | (k0, v0) :: kvs, h => by
    simp only [List.map_cons, idxF] at h
    by_cases e : k0 = f
    · rw [if_pos e] at h; cases h
    · rw [if_neg e] at h
      simp [putF, e, putF_none (fl := kvs) (v := v) (by simpa using h)]
theorem stF_ok {c f : Str} {d x d' : D} {v vx : V} {fp fx} (T : FldT X.K X.mg c f) (hC : C.At X) (r : Rep C H d v fp) (rx : Rep C H x vx fx) (nd : (fp ++ fx).Nodup) (h : stF c f d x = some d') {Q : Hp → Prop}
    (k : ∀ H' fp', Mono H H' → (∀ a o, H a = some o → a ∉ fp → H' a = some o) → Rep C H' d' v fp' → fp'.Nodup → (∀ a ∈ fp', a ∈ fp ∨ a ∈ fx) → Q H') :
    ∃ a Ca dx fl, v = .ref a ∧ H a = some (.ins Ca dx fl) ∧ Cls X.K Ca ∧ NoAttr X.K Ca f ∧ fl.length < 1000 ∧ Q (upd H a (.ins Ca dx (putF f vx fl))) := by
  unfold stF at h
  split at h
  case h_2 => cases h
  rename_i c' ns ds
  split at h
  case isFalse => cases h
  rename_i hcc
  obtain ⟨rfl, hlen⟩ := hcc
  cases h
  obtain ⟨a, Ca, dx, fl, f1, f2, rfl, hcl, ⟨hH, rfl⟩, hns, rs, _, rfl⟩ := r
  obtain ⟨Ca', hm, hc, hn⟩ := T
  have : Ca = Ca' := by
    have z1 : C.mg c' = some (.ref Ca) := hcl
    rw [hC.2, hm] at z1; cases z1; rfl
  subst this
  have hl : fl.length < 1000 := by rw [← hns] at hlen; simpa using hlen
  refine ⟨a, Ca, dx, fl, rfl, hH, hc, hn, hl, ?_⟩
  have m := Mono.upd (o := .ins Ca dx (putF f vx fl)) hH trivial
  have kp : ∀ b, b ≠ a → upd H a (.ins Ca dx (putF f vx fl)) b = H b := fun b hb => upd_ne hb
  cases q : idxF ns f with
  | some j =>
    rw [q] at k
    have q' := q
    rw [← hns] at q'
    obtain ⟨k1, k2, k3⟩ := idxF_look q'
    have hjd : j < ds.length := by rw [reps_length rs]; simpa using k2
    obtain ⟨w', g1, fo, g2, h1, h2, h3, h4⟩ := reps_set rs (j := j) (x := ds[j]) (by simp [hjd])
    subst h3
    have nda : a ∉ g1 ++ fo ++ g2 ++ fx := by simp at nd ⊢; exact ⟨nd.1.1, nd.1.2.1, nd.1.2.2.1, nd.1.2.2.2⟩
    refine k _ (a :: (g1 ++ fx ++ g2)) m (fun b o e hb => ?_) ⟨a, Ca, dx, putF f vx fl, [a], _, rfl, hcl, ⟨upd_same, rfl⟩, ?_, ?_, .inl rfl, rfl⟩ ?_ ?_
    · rw [kp b (fun z => hb (by simp [z]))]; exact e
    · rw [putF_some q', List.map_set, ← hns]
      have hjm : j < (fl.map (·.1)).length := by simpa using k2
      have : (fl.map (·.1))[j] = f := by
        rw [List.getElem?_eq_getElem k2] at k3; simpa using k3
      conv => rhs; rw [← List.set_getElem_self (as := fl.map (·.1)) (i := j) hjm]
      rw [this]
    · have hs2 : (putF f vx fl).map (·.2) = (fl.map (·.2)).set j vx := by rw [putF_some q', List.map_set]
      rw [hs2]
      refine h4 _ x vx fx m (fun b hb => kp b ?_) (rx.keep (fun b hb => kp b ?_) m)
      · intro z; subst z; exact nda (by simp at hb ⊢; rcases hb with z | z <;> simp [z])
      · intro z; subst z; exact nda (by simp [hb])
    · have p : (a :: (g1 ++ fx ++ g2) ++ fo).Perm (a :: (g1 ++ fo ++ g2) ++ fx) := by
        refine List.Perm.cons a ?_
        show ((g1 ++ fx ++ g2) ++ fo).Perm ((g1 ++ fo ++ g2) ++ fx)
        simp only [List.append_assoc]
        refine List.Perm.append_left g1 ?_
        have a1 : (fx ++ (g2 ++ fo)).Perm ((g2 ++ fo) ++ fx) := List.perm_append_comm
        refine a1.trans ?_
        rw [List.append_assoc]
        exact List.perm_append_comm_assoc _ _ _
      exact (List.nodup_append.mp (p.nodup_iff.mpr (by simpa using nd))).1
    · intro b hb
      simp at hb ⊢
      rcases hb with z | z | z | z <;> simp [z]
  | none =>
    rw [q] at k
    have q' := q
    rw [← hns] at q'
    have nda : a ∉ f2 ++ fx := by simp at nd ⊢; exact ⟨nd.1.1, nd.1.2⟩
    refine k _ (a :: (f2 ++ fx)) m (fun b o e hb => ?_) ⟨a, Ca, dx, putF f vx fl, [a], _, rfl, hcl, ⟨upd_same, rfl⟩, by rw [putF_none q', List.map_append, hns]; rfl, ?_, .inl rfl, rfl⟩ (by simpa using nd) ?_
    · rw [kp b (fun z => hb (by simp [z]))]; exact e
    · have hs2 : (putF f vx fl).map (·.2) = fl.map (·.2) ++ [vx] := by rw [putF_none q', List.map_append]; rfl
      rw [hs2]
      refine reps_append (rs.keep (fun b hb => kp b ?_) m) ⟨vx, [], fx, [], rfl, rx.keep (fun b hb => kp b ?_) m, ⟨rfl, rfl⟩, by simp⟩
      · intro z; subst z; exact nda (by simp [hb])
      · intro z; subst z; exact nda (by simp [hb])
    · intro b hb
      simp at hb ⊢
      rcases hb with z | z | z <;> simp [z]
def sSetF (i : Nat) (c f : Str) (cl : CL) (ca : CE) : CS := fun env => match ca env with
  | .ok x env1 => (match cl env1 with
    | .ok dF env2 => (match stF c f dF.1 x with
      | some d' => .nx (env2.set i (some (dF.2 d')))
      | none => .err)
    | _ => .err)
  | .ex x env => .ex x env
  | .err => .err
theorem ss_fld {c f : Str} {pos' : Pos} (T : FldT X.K X.mg c f) (ha : SO X W M1 e ca) (ho : SL X W i M2 o cl) (hs : swapsWith e (some (.Attribute o f pos')) pos.line X.env = pure false) : SS X W (M1 ++ (M2 ++ [i])) [] (.Assign [.Attribute o f pos'] e pos) (sSetF i c f cl ca) := by
  obtain ⟨t, p, q⟩ := ha.go
  obtain ⟨t2, p2, q2⟩ := ho.go
  refine ⟨sFld X.K t2 t f, ps_fld p2 p hs, fun C fs env σ H tf E hC G po => q C fs env σ H tf _ hC G ?_⟩
  unfold sSetF at po
  cases e1 : ca env with
  | err => rw [e1] at po; exact po
  | ex x env' => rw [e1] at po; exact fun cv dd fs' H' G' s => po cv dd fs' σ H' G' (s.ss.weak mem_l (fun _ z => z) fun _ z => z)
  | ok x env1 =>
    rw [e1] at po
    intro vx fs1 H1 fx G1 s1 rx
    refine q2 C fs1 env1 σ H1 (fx ++ tf) _ hC G1 ?_
    have po1 : PostS W C (M1 ++ (M2 ++ [i])) [] tf fs env σ H E (match cl env1 with
      | .ok dF env2 => (match stF c f dF.1 x with
        | some d' => .nx (env2.set i (some (dF.2 d')))
        | none => .err)
      | _ => .err) := po
    cases e2 : cl env1 with
    | err => rw [e2] at po1; exact po1.elim
    | ex z env' => rw [e2] at po1; exact po1.elim
    | ok dF env2 =>
      rw [e2] at po1
      intro v' fs2 H2 d v g1 fp' g2 G2 s2 hd hv hf Fo
      have po2 : PostS W C (M1 ++ (M2 ++ [i])) [] tf fs env σ H E (match stF c f dF.1 x with
        | some d' => .nx (env2.set i (some (dF.2 d')))
        | none => .err) := po1
      cases e3 : stF c f dF.1 x with
      | none => rw [e3] at po2; exact po2.elim
      | some d' =>
        rw [e3] at po2
        have rx2 : Rep C H2 x vx fx := rx.keep (fun a ha => s2.t a (by simp [ha])) s2.m
        refine stF_ok T hC Fo.here rx2 (place_nd G2 hd hf) e3 fun H3 fp3 m3 ch r3 nd3 sub3 => ?_
        obtain ⟨Gn, sn⟩ := place_put G2 hd hv hf Fo m3 ch r3 nd3 fun a ha => (sub3 a ha).elim .inl fun z => .inr (.inl z)
        have w2 := s2.weak (M' := M2) (tf' := tf) (fun _ z => z) fun x hx => by simp [hx]
        exact po2 _ σ H3 Gn (s1.trans (w2.trans sn)).ss

/-! ### op= -/
/-- x op= e of whole numbers -/
def sAug (i : Nat) (g : Int → Int → Int) (ca : CE) : CS := fun env => match env[i]? with
  | some (some (.int x)) => (match ca env with
    | .ok (.int y) env1 => .nx (env1.set i (some (.int (g x y))))
    | .ok _ _ => .err
    | .ex x env => .ex x env
    | .err => .err)
  | _ => .err
theorem aug_go {op : Operator} {g : Int → Int → Int} {rd : V → V → Hp → VK → Prop} {x : Str} {pos' : Pos} (hN : X.N.Nodup) (hop : PIp X op rd) (hrd : ∀ a b H Q, Q (.int (g a b)) H → rd (.int a) (.int b) H Q) (ha : SB X W M Rs e ca) (hi : X.N[i]? = some x) (hx : Loc X.env.scope x)
    (hf : X.fn x = true ∨ X.env.scope.names.lookup x = some .local) : SS X W (M ++ [i]) [i] (.AugAssign (.Name x pos') op e pos) (sAug i g ca) := by
  obtain ⟨t, p, q⟩ := ha.go
  refine ⟨tAug i t rd, ps_aug hN hi hx p hop hf, fun C fs env σ H tf E hC G po => ?_⟩
  unfold sAug at po
  cases e0 : env[i]? with
  | none => rw [e0] at po; exact po.elim
  | some od =>
    cases od with
    | none => rw [e0] at po; exact po.elim
    | some d =>
      obtain ⟨vd, ev, rd0⟩ := G.rep i d e0
      cases d with
      | int x0 =>
        rw [e0] at po
        obtain ⟨rfl, _⟩ := rd0
        refine ⟨.int x0, ev, q C fs env σ H tf _ hC G ?_⟩
        have po' : PostS W C (M ++ [i]) [i] tf fs env σ H E (match ca env with
          | .ok (.int y) env1 => .nx (env1.set i (some (.int (g x0 y))))
          | .ok _ _ => .err
          | .ex x env => .ex x env
          | .err => .err) := po
        cases e1 : ca env with
        | err => rw [e1] at po'; exact po'
        | ex x env' => rw [e1] at po'; exact fun cv dd fs' H' G' s => po' cv dd fs' σ H' G' (s.ss.weak mem_l (fun _ z => nomatch z) fun _ z => z)
        | ok y env1 =>
          rw [e1] at po'
          intro vy fs1 H1 fp own G1 s1 ry iy
          cases y with
          | int y0 =>
            obtain ⟨rfl, _⟩ := ry
            refine hrd _ _ _ _ ?_
            have G2 := G1.drop
            have Gp := (Good.put (i := i) (d := .int (g x0 y0)) (v := .int (g x0 y0)) (fp := []) (tf := tf) (by simpa using G2) ⟨rfl, rfl⟩)
            have Sp := (StepS.put (i := i) (d := .int (g x0 y0)) (v := .int (g x0 y0)) (fp := []) (tf := tf) (by simpa using G2))
            exact po' _ _ _ Gp (s1.ss.trans Sp)
          | _ => exact po'.elim
      | _ => rw [e0] at po; exact po.elim
end
end VS

set_option maxRecDepth 100000
namespace VS
open PySem L2 SeqAt PySem.Spec PyProof.Rows
section
variable {X : Cx} {W : WX} {M M1 M2 M3 V1 V2 V3 Rs R1 R2 R3 : List Nat} {e a b c tg o : Expr} {es : List Expr} {ca cb cc : CE} {cs : CA} {pos p apos tpos : Pos} {cl : CL} {i : Nat} {io : List Bool}
variable {pins : List (Addr × Obj)} {σ : L2.St} {H H1 H2 H3 H' : Hp} {s : Shared} {C C' : Ctx} {fs fs1 fs2 : FPs} {env env1 env2 : Env} {tf tf' own : List Addr} {cr : Env → R (List AV)}
theorem ss_augAdd {x : Str} {pos' : Pos} (hN : X.N.Nodup) (ha : SB X W M Rs e ca) (hi : X.N[i]? = some x) (hx : Loc X.env.scope x) (hf : X.fn x = true ∨ X.env.scope.names.lookup x = some .local) : SS X W (M ++ [i]) [i] (.AugAssign (.Name x pos') .Add e pos) (sAug i (fun i j => i + j) ca) :=
  aug_go hN ip_add (fun a b H Q q => ⟨a, b, rfl, rfl, q⟩) ha hi hx hf
theorem ss_augSub {x : Str} {pos' : Pos} (hN : X.N.Nodup) (ha : SB X W M Rs e ca) (hi : X.N[i]? = some x) (hx : Loc X.env.scope x) (hf : X.fn x = true ∨ X.env.scope.names.lookup x = some .local) : SS X W (M ++ [i]) [i] (.AugAssign (.Name x pos') .Sub e pos) (sAug i (fun i j => i - j) ca) :=
  aug_go hN ip_sub (fun a b H Q q => ⟨a, b, rfl, rfl, q⟩) ha hi hx hf
/-- d[k] op= e of whole numbers -/
def intAt : D → D → Option Int
  | .dct .m ks ds, y => y.key.bind fun k => match lookD ks ds k with
    | some (.int x) => some x
    | _ => none
  | _, _ => none
theorem intAt_inv {d y : D} {x : Int} (h : intAt d y = some x) : ∃ ks ds ky, d = .dct .m ks ds ∧ y.key = some ky ∧ lookD ks ds ky = some (.int x) := by
  unfold intAt at h
  split at h
  · obtain ⟨ky, hk, h⟩ := Option.bind_eq_some_iff.mp h
    split at h
    · cases h
      rename_i hl
      exact ⟨_, _, ky, rfl, hk, hl⟩
    · cases h
  · cases h
def sDAug (i : Nat) (g : Int → Int → Int) (cl : CL) (cb ca : CE) : CS := fun env => match cl env with
  | .ok dF env1 => (match cb env1 with
    | .ok y env2 => (match intAt dF.1 y with
      | some x => (match ca env2 with
        | .ok (.int z) env3 => (match stD dF.1 y (.int (g x z)) with
          | some d' => .nx (env3.set i (some (dF.2 d')))
          | none => .err)
        | _ => .err)
      | none => .err)
    | _ => .err)
  | _ => .err
theorem stD_dct {ks : List Key} {ds : List D} {y x d' : D} {v w vx : V} {fp fw fx} (hC : C.At X) (hF : Fr C H) (r : Rep C H (.dct .m ks ds) v fp) (ry : Rep C H y w fw) (rx : Rep C H x vx fx) (nd : (fp ++ fx).Nodup) (h : stD (.dct .m ks ds) y x = some d') {Q : Hp → Prop}
    (k : ∀ H' fp', Mono H H' → (∀ a o, H a = some o → a ∉ fp → H' a = some o) → Rep C H' d' v fp' → fp'.Nodup → (∀ a ∈ fp', a ∈ fp ∨ a ∈ fx) → Q H') : rSetD v w vx H Q := by
  rcases st_ok hC hF r ry rx nd h k with z | z
  · obtain ⟨a, xs, n, j, e1, e2, e3, _⟩ := z
    obtain ⟨a', kvs, f1, f2, e4, ⟨hH, _⟩, _⟩ := r
    rw [e1] at e4; cases e4
    rw [hH] at e3; cases e3
  · exact z
theorem daug_go {op : Operator} {g : Int → Int → Int} {rd : V → V → Hp → VK → Prop} {k : Nat} (hr : Room k X.A) (hop : InOp X op rd) (hrd : ∀ a b H Q, Q (.int (g a b)) H → rd (.int a) (.int b) H Q) (ho : SL X W i M1 o cl) (hb : SB X W M2 R2 b cb) (ha : SB X W M3 R3 e ca)
    (hi : djB [i] (M2 ++ M3) = true) (h3 : djB R2 M3 = true)
    (hst : ∀ ov iv new, augStore b ov iv new = (do holding [new, ov, iv] (setItem ov iv new); release [new, ov, iv] []; pure .next)) : SS X W (M1 ++ (M2 ++ (M3 ++ [i]))) [] (.AugAssign (.Subscript o b tpos) op e pos) (sDAug i g cl cb ca) := by
  obtain ⟨t, p, q⟩ := ho.go
  obtain ⟨t2, p2, q2⟩ := hb.go
  obtain ⟨t3, p3, q3⟩ := ha.go
  refine ⟨L2.sDAug t t2 t3 rd, ps_daug (by have := hr.units; omega) p p2 p3 hop hst, fun C fs env σ H tf E hC G po => q C fs env σ H tf _ hC G ?_⟩
  unfold sDAug at po
  cases e1 : cl env with
  | err => rw [e1] at po; exact po.elim
  | ex x env' => rw [e1] at po; exact po.elim
  | ok dF env1 =>
    rw [e1] at po
    intro v' fs1 H1 d v g1 fp' g2 G1 s1 hd hv hf Fo
    refine q2 C fs1 env1 σ H1 tf _ hC G1 ?_
    have po1 : PostS W C (M1 ++ (M2 ++ (M3 ++ [i]))) [] tf fs env σ H E (match cb env1 with
      | .ok y env2 => (match intAt dF.1 y with
        | some x => (match ca env2 with
          | .ok (.int z) env3 => (match stD dF.1 y (.int (g x z)) with
            | some d' => .nx (env3.set i (some (dF.2 d')))
            | none => .err)
          | _ => .err)
        | none => .err)
      | _ => .err) := po
    cases e2 : cb env1 with
    | err => rw [e2] at po1; exact po1.elim
    | ex x env' => rw [e2] at po1; exact po1.elim
    | ok y env2 =>
      rw [e2] at po1
      intro w fs2 H2 fw own G2 s2 rw' iw
      have ni : i ∉ M2 := fun z => djB_ok hi i (by simp) (by simp [z])
      have ni3 : i ∉ M3 := fun z => djB_ok hi i (by simp) (by simp [z])
      have Fo2 := Fo.keep s2.m (fun a ha => s2.h i ni a (by rw [hf]; exact ha))
      have hd2 : env2[i]? = some (some d) := by rw [s2.e i ni]; exact hd
      have hf2 : fs2.getD i [] = g1 ++ fp' ++ g2 := by rw [s2.f i ni]; exact hf
      have po2 : PostS W C (M1 ++ (M2 ++ (M3 ++ [i]))) [] tf fs env σ H E (match intAt dF.1 y with
        | some x => (match ca env2 with
          | .ok (.int z) env3 => (match stD dF.1 y (.int (g x z)) with
            | some d' => .nx (env3.set i (some (dF.2 d')))
            | none => .err)
          | _ => .err)
        | none => .err) := po1
      cases e3 : intAt dF.1 y with
      | none => rw [e3] at po2; exact po2.elim
      | some x =>
        rw [e3] at po2
        obtain ⟨ks, ds, ky, hdf, hky, hlk⟩ := intAt_inv e3
        have Foh := Fo2.here
        rw [hdf] at Foh
        have Foh0 := Foh
        obtain ⟨ad, kvs, f1, f2, rfl, ⟨hH, rfl⟩, hks, rs, _, rfl⟩ := Foh
        have ey := key_of hky rw'
        rw [← hks.1] at hlk
        obtain ⟨vx, _, _, _, hvx, rvx, _⟩ := look_rep rs hlk
        obtain ⟨rfl, _⟩ := rvx
        refine ⟨ad, .int x, rfl, .inl ⟨kvs, ky, .inl hH, ey, hvx.symm⟩, ?_⟩
        refine q3 C fs2 env2 σ H2 (own ++ tf) _ hC G2 ?_
        have po3 : PostS W C (M1 ++ (M2 ++ (M3 ++ [i]))) [] tf fs env σ H E (match ca env2 with
          | .ok (.int z) env3 => (match stD dF.1 y (.int (g x z)) with
            | some d' => .nx (env3.set i (some (dF.2 d')))
            | none => .err)
          | _ => .err) := po2
        cases e4 : ca env2 with
        | err => rw [e4] at po3; exact po3.elim
        | ex x env' => rw [e4] at po3; exact po3.elim
        | ok z env3 =>
          rw [e4] at po3
          cases z with
          | int z0 =>
            intro vz fs3 H3 fz own3 G3 s3 rz iz
            obtain ⟨rfl, _⟩ := rz
            have po4 : PostS W C (M1 ++ (M2 ++ (M3 ++ [i]))) [] tf fs env σ H E (match stD dF.1 y (.int (g x z0)) with
              | some d' => .nx (env3.set i (some (dF.2 d')))
              | none => .err) := po3
            cases e5 : stD dF.1 y (.int (g x z0)) with
            | none => rw [e5] at po4; exact po4.elim
            | some d' =>
              rw [e5] at po4
              refine hrd _ _ _ _ ?_
              have Fo3 := Fo2.keep s3.m (fun a ha => s3.h i ni3 a (by rw [hf2]; exact ha))
              have hd3 : env3[i]? = some (some d) := by rw [s3.e i ni3]; exact hd2
              have hf3 : fs3.getD i [] = g1 ++ (ad :: f2) ++ g2 := by rw [s3.f i ni3]; exact hf2
              have rw3 : Rep C H3 y w fw := rw'.keep (iw.keep s3 (djB_ok h3)) s3.m
              have G3' : Good C fs3 env3 σ H3 ([] ++ tf) := by simpa using G3.drop.drop
              have Fh3 := Fo3.here
              rw [hdf] at Fh3 e5
              obtain ⟨ad', H5, e6, e7, e8⟩ := stD_dct hC G3.fr Fh3 rw3 (x := .int (g x z0)) (vx := .int (g x z0)) (fx := []) ⟨rfl, rfl⟩ (place_nd G3' hd3 hf3) e5 (Q := fun H5 => E.nx σ H5) fun H4 fp4 m4 ch r4 nd4 sub4 => by
                obtain ⟨Gn, sn⟩ := place_put G3' hd3 hv hf3 Fo3 m4 ch r4 nd4 fun a ha => (sub4 a ha).elim .inl fun z => .inr (.inl z)
                have w3 := s3.weak (M' := M3) (tf' := tf) (fun _ z => z) fun x hx => by simp [hx]
                exact po4 _ σ H4 Gn (s1.trans (s2.trans (w3.trans sn))).ss
              cases e6
              exact ⟨H5, e7, e8⟩
          | _ => exact po3.elim
theorem ss_daugAdd {k : Nat} (hr : Room k X.A) (ho : SL X W i M1 o cl) (hb : SB X W M2 R2 b cb) (ha : SB X W M3 R3 e ca) (hi : djB [i] (M2 ++ M3) = true) (h3 : djB R2 M3 = true)
    (hst : ∀ ov iv new, augStore b ov iv new = (do holding [new, ov, iv] (setItem ov iv new); release [new, ov, iv] []; pure .next)) : SS X W (M1 ++ (M2 ++ (M3 ++ [i]))) [] (.AugAssign (.Subscript o b tpos) .Add e pos) (sDAug i (fun i j => i + j) cl cb ca) :=
  daug_go hr in_add (fun a b H Q q => ⟨a, b, rfl, rfl, q⟩) ho hb ha hi h3 hst
theorem ss_daugSub {k : Nat} (hr : Room k X.A) (ho : SL X W i M1 o cl) (hb : SB X W M2 R2 b cb) (ha : SB X W M3 R3 e ca) (hi : djB [i] (M2 ++ M3) = true) (h3 : djB R2 M3 = true)
    (hst : ∀ ov iv new, augStore b ov iv new = (do holding [new, ov, iv] (setItem ov iv new); release [new, ov, iv] []; pure .next)) : SS X W (M1 ++ (M2 ++ (M3 ++ [i]))) [] (.AugAssign (.Subscript o b tpos) .Sub e pos) (sDAug i (fun i j => i - j) cl cb ca) :=
  daug_go hr in_sub (fun a b H Q q => ⟨a, b, rfl, rfl, q⟩) ho hb ha hi h3 hst

/-! ### methods -/
def mthOk (c m : Str) : D → Bool
  | .obj _ c' ns _ => decide (c' = c) && decide (m ∉ ns)
  | _ => false
/-- a method of the class c that comes to φ -/
def MthT (P : Program) (w : World) (K : PySem.W.Frag) (mg : Str → Option Value) (base : Heap) (k : Nat) (c m : Str) (ps : List Str) (io : List Bool) (φ : List D → FR) : Prop :=
  ∃ (Ca f : Addr) (fd : FuncData), mg c = some (.ref Ca) ∧ Cls K Ca ∧ Meth K Ca m f ∧ FnOk P w K mg base (L2.CX P w) k f fd ps (spF K mg io φ) ∧ Binds K fd ps []
theorem MthT.mono {P : Program} {w : World} {K : PySem.W.Frag} {mg : Str → Option Value} {base : Heap} {j k : Nat} {c m : Str} {ps : List Str} {io : List Bool} {φ : List D → FR} (F : MthT P w K mg base j c m ps io φ) (h : j ≤ k) : MthT P w K mg base k c m ps io φ :=
  let ⟨Ca, f, fd, h1, h2, h3, h4, h5⟩ := F
  ⟨Ca, f, fd, h1, h2, h3, h4.mono h, h5⟩
def tRecv (Ca : Addr) (m : Str) (ta : TE) (t : TA) : TA := fun σ H Q => ta σ H fun x H1 => ∃ a dx fl, x = .ref a ∧ Rd H1 a (.ins Ca dx fl) ∧ fl.lookup m = none ∧ t σ H1 fun vs H2 => Q (x :: vs) H2
theorem pe_methS {CX : CXT} {k : Nat} {f Ca : Addr} {fd : FuncData} {ps : List Str} {sp : Sp} {E : L2.St → XK} {m : Str} {ta : TE} {t : TA} {pl : Sem Bool} (he : PE X o ta) (c : Cls X.K Ca) (hm : Meth X.K Ca m f) (F : FnOk X.prog X.w X.K X.mg X.base CX k f fd ps sp) (hr : Room k X.A) (hb : Binds X.K fd ps [])
    (hx : ∀ σ, PassesAt CX X σ (E σ)) (ha : PA X (e :: es) t) (hst : starEach (e :: es) X.env = (false, eval e X.env) :: starEach es X.env) (hpl : (backTo pos (starEach es X.env)).any (·.1) = false)
    (ht : eval (.Call (.Attribute o m apos) (e :: es) [] pos) X.env = (do
      let ov ← eval o X.env
      standAt apos.atName
      let (f, first) ← holding [ov] (getMethod ov m pl)
      callWith pos f first (backTo pos (starEach (e :: es) X.env)) (backToKw pos (keywordEach [] X.env)))) :
    PE X (.Call (.Attribute o m apos) (e :: es) [] pos) (fun σ H Q => tRecv Ca m ta t σ H fun vs H1 => sp vs H1 Q (E σ)) := by
  refine ⟨fun pins s σ H Q I h => ?_⟩
  refine PySem.W.methodCall_KW (pl := pl) (thn (he.run pins s σ H _ I h) fun u s1 ⟨x, H1, I1, rx, a, dx, fl, ex, ea, l, q⟩ => ?_) ht
  subst ex
  obtain rfl : u = Value.ref a := rx
  refine getmethR I1 ea c hm l ?_
  refine PySem.W.callWith_K (first := [.ref a]) (h₀ := X.base) I.ok.mod.kin hm.kp (thn (ha.run pos pins s1 σ H1 _ I1 q) fun us s2 ⟨vs, H2, I2, r, q2⟩ => ⟨I2.kIn, ?_⟩) hst hpl
  exact run_fnS (us := .ref a :: us) (vs := .ref a :: vs) F hr hb (hx σ) I2 (.cons rfl r) q2
theorem pe_methS0 {CX : CXT} {k : Nat} {f Ca : Addr} {fd : FuncData} {ps : List Str} {sp : Sp} {E : L2.St → XK} {m : Str} {ta : TE} {pl : Sem Bool} (he : PE X o ta) (c : Cls X.K Ca) (hm : Meth X.K Ca m f) (F : FnOk X.prog X.w X.K X.mg X.base CX k f fd ps sp) (hr : Room k X.A) (hb : Binds X.K fd ps [])
    (hx : ∀ σ, PassesAt CX X σ (E σ))
    (ht : eval (.Call (.Attribute o m apos) [] [] pos) X.env = (do
      let ov ← eval o X.env
      standAt apos.atName
      let (f, first) ← holding [ov] (getMethod ov m pl)
      callWith pos f first (backTo pos (starEach [] X.env)) (backToKw pos (keywordEach [] X.env)))) :
    PE X (.Call (.Attribute o m apos) [] [] pos) (fun σ H Q => tRecv Ca m ta tNil σ H fun vs H1 => sp vs H1 Q (E σ)) := by
  refine ⟨fun pins s σ H Q I h => ?_⟩
  refine PySem.W.methodCall_KW (pl := pl) (thn (he.run pins s σ H _ I h) fun u s1 ⟨x, H1, I1, rx, a, dx, fl, ex, ea, l, q⟩ => ?_) ht
  subst ex
  obtain rfl : u = Value.ref a := rx
  refine getmethR I1 ea c hm l ?_
  exact PySem.W.callWith_K0 (first := [.ref a]) I1.kIn hm.kp (run_fnS (us := [.ref a]) (vs := [.ref a]) F hr hb (hx σ) I1 (.cons rfl .nil) q)
/-- a receiver, and the arguments -/
def aRoM (c m : Str) (ca : CE) (cr : Env → R (List AV)) : Env → R (List AV) := fun env => (ca env).bind fun d env => if mthOk c m d then ((cr env).bind fun as env => .ok (.ro d :: as) env) else .err
def aOwM (c m : Str) (ca : CE) (wb : Option Nat) (cr : Env → R (List AV)) : Env → R (List AV) := fun env => (ca env).bind fun d env => if mthOk c m d then ((cr env).bind fun as env => .ok (.ow d wb :: as) env) else .err
theorem mth_here {c m : Str} {Ca : Addr} {d : D} {v : V} {fp : List Addr} (hC : C.At X) (hF : Fr C H) (hm : X.mg c = some (.ref Ca)) (h : mthOk c m d = true) (r : Rep C H d v fp) : ∃ a dx fl, v = .ref a ∧ Rd H a (.ins Ca dx fl) ∧ fl.lookup m = none := by
  unfold mthOk at h
  split at h
  case h_2 => cases h
  rename_i g c' ns ds
  obtain ⟨h1, h2⟩ := Bool.and_eq_true_iff.mp h
  have h1 := of_decide_eq_true h1
  have h2 := of_decide_eq_true h2
  subst h1
  obtain ⟨a, Ca', dx, fl, f1, f2, rfl, hcl, rd, hns, rs, ef⟩ := rep_obj hF r
  have : Ca' = Ca := by
    have z1 : C.mg c' = some (.ref Ca') := hcl
    rw [hC.2, hm] at z1; cases z1; rfl
  subst this
  refine ⟨a, dx, fl, rfl, rd, ?_⟩
  rw [← hns] at h2
  clear rd rs hns
  induction fl with
  | nil => rfl
  | cons kv fl ih =>
    obtain ⟨k0, v0⟩ := kv
    have hb : (m == k0) = false := by
      simp only [List.map_cons, List.mem_cons, not_or] at h2
      simpa using h2.1
    simp only [List.lookup, hb]
    exact ih (by simp only [List.map_cons, List.mem_cons, not_or] at h2; exact h2.2)
theorem recv_ro {c m : Str} {Ca : Addr} {t : TE} {t2 : TA} (hm : X.mg c = some (.ref Ca))
    (q : ∀ C fs env σ H tf Q, C.At X → Good C fs env σ H tf → PostB W C M1 R1 tf fs env σ H Q (ca env) → t σ H Q)
    (q2 : ∀ C fs env σ H tf Q, C.At X → Good C fs env σ H tf → PostR W C M2 R2 tf fs env σ H Q (cr env) → t2 σ H Q) (hd : djB R1 M2 = true) :
    ∀ C fs env σ H tf Q, C.At X → Good C fs env σ H tf → PostR W C (M1 ++ M2) (R1 ++ R2) tf fs env σ H Q (aRoM c m ca cr env) → tRecv Ca m t t2 σ H Q := by
  intro C fs env σ H tf Q hC G po
  refine q C fs env σ H tf _ hC G ?_
  unfold aRoM at po
  cases e1 : ca env with
  | err => rw [e1] at po; exact po
  | ex x env' => rw [e1] at po; exact fun cv dd fs' H' G' s => po cv dd fs' H' G' (s.weak mem_l fun _ z => z)
  | ok d env1 =>
    rw [e1] at po
    intro v fs1 H1 fp1 own1 G1 s1 r1 i1
    have po0 : PostR W C (M1 ++ M2) (R1 ++ R2) tf fs env σ H Q (if mthOk c m d then ((cr env1).bind fun as env => .ok (.ro d :: as) env) else .err) := po
    split at po0
    case isFalse => exact po0.elim
    rename_i hok
    obtain ⟨a, dx, fl, e0, rd, hl⟩ := mth_here hC G1.fr hm hok r1
    refine ⟨a, dx, fl, e0, rd, hl, ?_⟩
    refine q2 C fs1 env1 σ H1 (own1 ++ tf) _ hC G1 ?_
    cases e2 : cr env1 with
    | err => rw [e2] at po0; exact po0
    | ex x env' => rw [e2] at po0; exact fun cv dd fs' H' G' s => po0 cv dd fs' H' G'.drop (s1.trans (s.weak (fun _ z => z) fun x hx => List.mem_append_right _ hx))
    | ok as env2 =>
      rw [e2] at po0
      intro vs fs2 H2 fps ownr G2 s2 r2
      have po2 : ∀ vs fs' H' fps ownr, Good C fs' env2 σ H' (fps.flatten ++ (ownr ++ tf)) → Step (M1 ++ M2) tf fs env H fs' env2 H' → AOk C H' σ (M1 ++ M2) (R1 ++ R2) fs' ownr (.ro d :: as) vs fps → Q vs H' := po0
      refine po2 (v :: vs) fs2 H2 ([] :: fps) (ownr ++ own1) (by simpa using G2) (s1.trans (s2.weak (fun _ z => z) fun x hx => List.mem_append_right _ hx)) ?_
      exact ⟨v, vs, fp1, fps, rfl, rfl, r1.keep (i1.keep s2 (djB_ok hd)) s2.m, (i1.step (own2 := ownr) s2 (djB_ok hd)).mono mem_l fun _ z => z, r2.mono mem_r mem_r fun _ z => List.mem_append_left _ z⟩
theorem recv_io {c m : Str} {Ca : Addr} {t2 : TA} (hm : X.mg c = some (.ref Ca))
    (q2 : ∀ C fs env σ H tf Q, C.At X → Good C fs env σ H tf → PostR W C M2 R2 tf fs env σ H Q (cr env) → t2 σ H Q) :
    ∀ C fs env σ H tf Q, C.At X → Good C fs env σ H tf → PostR W C ([i] ++ M2) R2 tf fs env σ H Q (aOwM c m (cMv i) (some i) cr env) → tRecv Ca m (tVar i) t2 σ H Q := by
  intro C fs env σ H tf Q hC G po
  unfold aOwM at po
  cases e1 : cMv i env with
  | err => rw [e1] at po; exact po.elim
  | ex x env' => unfold cMv at e1; split at e1 <;> cases e1
  | ok d env1 =>
    rw [e1] at po
    unfold cMv at e1
    split at e1
    case h_2 => cases e1
    rename_i d' e2
    cases e1
    obtain ⟨v, e3, r⟩ := G.rep i d e2
    refine ⟨v, e3, ?_⟩
    have po0 : PostR W C ([i] ++ M2) R2 tf fs env σ H Q (if mthOk c m d then ((cr (env.set i none)).bind fun as env => .ok (.ow d (some i) :: as) env) else .err) := po
    split at po0
    case isFalse => exact po0.elim
    rename_i hok
    obtain ⟨a, dx, fl, e0, rd, hl⟩ := mth_here hC G.fr hm hok r
    refine ⟨a, dx, fl, e0, rd, hl, ?_⟩
    have G1 := G.mv e2
    have s1 : Step [i] tf fs env H (fs.set i []) (env.set i none) H := by
      refine ⟨fun _ _ => rfl, fun j hj => ?_, fun j hj => ?_, fun _ _ _ _ => rfl, .refl H⟩
      · rw [getD_set fs i j [] (G.lt e2), if_neg (by simpa using hj)]
      · rw [List.getElem?_set, if_neg (by intro z; subst z; simp at hj)]
    refine q2 C _ _ σ H (fs.getD i [] ++ tf) _ hC G1 ?_
    cases e4 : cr (env.set i none) with
    | err => rw [e4] at po0; exact po0
    | ex x env' => rw [e4] at po0; exact fun cv dd fs' H' G' s => po0 cv dd fs' H' G'.drop (s1.trans (s.weak (fun _ z => z) fun x hx => List.mem_append_right _ hx))
    | ok as env2 =>
      rw [e4] at po0
      intro vs fs2 H2 fps ownr G2 s2 r2
      have po2 : ∀ vs fs' H' fps ownr, Good C fs' env2 σ H' (fps.flatten ++ (ownr ++ tf)) → Step ([i] ++ M2) tf fs env H fs' env2 H' → AOk C H' σ ([i] ++ M2) R2 fs' ownr (.ow d (some i) :: as) vs fps → Q vs H' := po0
      refine po2 (v :: vs) fs2 H2 (fs.getD i [] :: fps) ownr (G2.perm ?_) (s1.trans (s2.weak (fun _ z => z) fun x hx => List.mem_append_right _ hx)) ?_
      · rw [List.flatten_cons]
        have : (fps.flatten ++ (ownr ++ (fs.getD i [] ++ tf))).Perm (fs.getD i [] ++ (fps.flatten ++ (ownr ++ tf))) := by
          exact ((List.perm_append_comm_assoc _ _ _).append_left _).trans (List.perm_append_comm_assoc _ _ _)
        rw [List.append_assoc]; exact this.symm
      · exact ⟨v, vs, fs.getD i [], fps, rfl, rfl, r.keep (fun x hx => s2.t x (List.mem_append_left _ hx)) s2.m, ⟨e3, by simp⟩, r2.mono mem_r (fun _ z => z) fun _ z => z⟩
theorem shape_ro {c m : Str} (h : ∀ env avs env', cr env = .ok avs env' → avs.map AV.io = io) : ∀ env avs env', aRoM c m ca cr env = .ok avs env' → avs.map AV.io = false :: io := fun env avs env' z => by
  obtain ⟨d, e1, h1, h2⟩ := R.bind_ok z
  split at h2
  · obtain ⟨as, e2, h3, h4⟩ := R.bind_ok h2
    cases h4
    simp [AV.io, h _ _ _ h3]
  · cases h2
theorem shape_ow {c m : Str} {wb} (h : ∀ env avs env', cr env = .ok avs env' → avs.map AV.io = io) : ∀ env avs env', aOwM c m ca wb cr env = .ok avs env' → avs.map AV.io = true :: io := fun env avs env' z => by
  obtain ⟨d, e1, h1, h2⟩ := R.bind_ok z
  split at h2
  · obtain ⟨as, e2, h3, h4⟩ := R.bind_ok h2
    cases h4
    simp [AV.io, h _ _ _ h3]
  · cases h2
variable {k : Nat} {c m : Str} {ps : List Str} {φ : List D → FR}
theorem so_meth {pl : Sem Bool} (F : MthT X.prog X.w X.K X.mg X.base k c m ps (false :: io) φ) (hr : Room k X.A) (tk : Takes X W) (ho : SB X W M1 R1 o ca) (ha : SRI X W M2 R2 io (e :: es) cr) (hd : djB R1 M2 = true)
    (hst : starEach (e :: es) X.env = (false, eval e X.env) :: starEach es X.env) (hpl : (backTo pos (starEach es X.env)).any (·.1) = false)
    (ht : eval (.Call (.Attribute o m apos) (e :: es) [] pos) X.env = (do
      let ov ← eval o X.env
      standAt apos.atName
      let (f, first) ← holding [ov] (getMethod ov m pl)
      callWith pos f first (backTo pos (starEach (e :: es) X.env)) (backToKw pos (keywordEach [] X.env)))) :
    SO X W (M1 ++ M2) (.Call (.Attribute o m apos) (e :: es) [] pos) (cCall φ (aRoM c m ca cr)) := by
  obtain ⟨Ca, f, fd, h1, h2, h3, h4, h5⟩ := F
  obtain ⟨t, p, q⟩ := ho.go
  obtain ⟨t2, p2, q2⟩ := ha.sr.go
  refine ⟨_, pe_methS (E := WE W) (pl := pl) p h2 h3 h4 hr h5 (fun σ => passAt tk σ) p2 hst hpl ht, ?_⟩
  exact call_go (E := WE W) (fun _ _ _ _ h => h) (shape_ro ha.shape) (recv_ro h1 q q2 hd) (by unfold djB; simp)
theorem so_meth0 {pl : Sem Bool} (F : MthT X.prog X.w X.K X.mg X.base k c m ps [false] φ) (hr : Room k X.A) (tk : Takes X W) (ho : SB X W M1 R1 o ca)
    (ht : eval (.Call (.Attribute o m apos) [] [] pos) X.env = (do
      let ov ← eval o X.env
      standAt apos.atName
      let (f, first) ← holding [ov] (getMethod ov m pl)
      callWith pos f first (backTo pos (starEach [] X.env)) (backToKw pos (keywordEach [] X.env)))) :
    SO X W (M1 ++ []) (.Call (.Attribute o m apos) [] [] pos) (cCall φ (aRoM c m ca aNil)) := by
  obtain ⟨Ca, f, fd, h1, h2, h3, h4, h5⟩ := F
  obtain ⟨t, p, q⟩ := ho.go
  refine ⟨_, pe_methS0 (E := WE W) (pl := pl) p h2 h3 h4 hr h5 (fun σ => passAt tk σ) ht, ?_⟩
  refine call_go (E := WE W) (fun _ _ _ _ h => h) (shape_ro (sri_nil (X := X) (W := W)).shape) (recv_ro (cr := aNil) (M2 := []) (R2 := []) h1 q (fun C fs env σ H tf Q hC G po => ?_) (by unfold djB; simp)) (by unfold djB; simp)
  exact po [] fs H [] [] (by simpa using G) .refl ⟨rfl, rfl⟩
theorem so_methI {x : Str} {xpos : Pos} {pl : Sem Bool} (F : MthT X.prog X.w X.K X.mg X.base k c m ps (true :: io) φ) (hr : Room k X.A) (tk : Takes X W) (ha : SRI X W M2 R2 io (e :: es) cr)
    (hN : X.N[i]? = some x) (hv : Vis X.env.scope x) (hdb : (x == ("__debug__" : Str)) = false) (hcd : (x == ("__classdict__" : Str)) = false)
    (hst : starEach (e :: es) X.env = (false, eval e X.env) :: starEach es X.env) (hpl : (backTo pos (starEach es X.env)).any (·.1) = false)
    (ht : eval (.Call (.Attribute (.Name x xpos) m apos) (e :: es) [] pos) X.env = (do
      let ov ← eval (.Name x xpos) X.env
      standAt apos.atName
      let (f, first) ← holding [ov] (getMethod ov m pl)
      callWith pos f first (backTo pos (starEach (e :: es) X.env)) (backToKw pos (keywordEach [] X.env)))) :
    SO X W ([i] ++ M2) (.Call (.Attribute (.Name x xpos) m apos) (e :: es) [] pos) (cCall φ (aOwM c m (cMv i) (some i) cr)) := by
  obtain ⟨Ca, f, fd, h1, h2, h3, h4, h5⟩ := F
  obtain ⟨t2, p2, q2⟩ := ha.sr.go
  refine ⟨_, pe_methS (E := WE W) (pl := pl) (pe_var hN hv hdb hcd) h2 h3 h4 hr h5 (fun σ => passAt tk σ) p2 hst hpl ht, ?_⟩
  exact call_go (E := WE W) (fun _ _ _ _ h => h) (shape_ow ha.shape) (recv_io h1 q2) (by unfold djB; simp)
theorem so_methI0 {x : Str} {xpos : Pos} {pl : Sem Bool} (F : MthT X.prog X.w X.K X.mg X.base k c m ps [true] φ) (hr : Room k X.A) (tk : Takes X W)
    (hN : X.N[i]? = some x) (hv : Vis X.env.scope x) (hdb : (x == ("__debug__" : Str)) = false) (hcd : (x == ("__classdict__" : Str)) = false)
    (ht : eval (.Call (.Attribute (.Name x xpos) m apos) [] [] pos) X.env = (do
      let ov ← eval (.Name x xpos) X.env
      standAt apos.atName
      let (f, first) ← holding [ov] (getMethod ov m pl)
      callWith pos f first (backTo pos (starEach [] X.env)) (backToKw pos (keywordEach [] X.env)))) :
    SO X W ([i] ++ []) (.Call (.Attribute (.Name x xpos) m apos) [] [] pos) (cCall φ (aOwM c m (cMv i) (some i) aNil)) := by
  obtain ⟨Ca, f, fd, h1, h2, h3, h4, h5⟩ := F
  refine ⟨_, pe_methS0 (E := WE W) (pl := pl) (pe_var hN hv hdb hcd) h2 h3 h4 hr h5 (fun σ => passAt tk σ) ht, ?_⟩
  refine call_go (E := WE W) (fun _ _ _ _ h => h) (shape_ow (sri_nil (X := X) (W := W)).shape) (recv_io (cr := aNil) (M2 := []) (R2 := []) h1 (fun C fs env σ H tf Q hC G po => ?_)) (by unfold djB; simp)
  exact po [] fs H [] [] (by simpa using G) .refl ⟨rfl, rfl⟩
end
end VS

set_option maxRecDepth 100000
namespace VS
open PySem L2 SeqAt PySem.Spec PyProof.Rows
section
variable {X : Cx} {W : WX} {M M1 M2 M3 V1 V2 V3 Rs R1 R2 R3 : List Nat} {e a b c tg o : Expr} {es : List Expr} {ca cb cc : CE} {cs : CA} {pos p apos tpos : Pos} {cl : CL} {i : Nat} {io : List Bool}
variable {pins : List (Addr × Obj)} {σ : L2.St} {H H1 H2 H3 H' HA : Hp} {s : Shared} {C C' : Ctx} {fs fs1 fs2 fsA : FPs} {env env1 env2 : Env} {tf tf' own ownr : List Addr} {cr : Env → R (List AV)}
theorem call_fin {A' fpr : List Addr} {avs : List AV} {vs : List V} {fpsA fpso : FPs} {os : List D} (hk : C'.K = C.K) (hm : C'.mg = C.mg) (h0 : C'.H0 = H1) (hA : C'.A = A') (hl : C'.Lk = C.Lk) (G1 : Good C fs1 env1 σ H1 (A' ++ (ownr ++ tf)))
    (ao : AOk C HA σ M Rs fsA ownr avs vs fpsA) (hio : avs.map AV.io = io) (f : Fr C' H2) (m : Mono H1 H2) (orr : OutR C' H2 io os vs fpso) (hn : nols os = true) (hp : putBack avs os env1 = some env2) (nd : (fpr ++ fpso.flatten).Nodup)
    (hw : ∀ a ∈ fpr ++ fpso.flatten, a ∈ A' ∨ H1 a = none) (tk : ∀ a ∈ fpr, ∃ o, H2 a = some o ∧ Mutb o) : ∃ fs2, Good C fs2 env2 σ H2 (fpr ++ tf) ∧ Step M tf fs1 env1 H1 fs2 env2 H2 := by
  obtain ⟨G2, keep⟩ := good_after (C' := C') G1 h0 hA hl f m
  have G3 : Good C fs1 env1 σ H2 ((fpr ++ fpso.flatten) ++ (ownr ++ tf)) := good_come (A' := A') G1 G2 nd hw fun a ha => (List.mem_append.mp ha).elim (tk a) (orr.trk a)
  have G4 : Good C fs1 env1 σ H2 (fpso.flatten ++ (fpr ++ tf)) := by
    refine (G3.sub (tf' := (fpr ++ fpso.flatten) ++ tf) ((List.Sublist.refl _).append (List.sublist_append_right _ _))).perm ?_
    rw [← List.append_assoc]; exact List.perm_append_comm.append_right _
  rw [← hio] at orr
  obtain ⟨fs2, G5, s5⟩ := put_back (C' := C') hk hm hl ao orr hn hp G4
  refine ⟨fs2, G5, ?_⟩
  have s12 : Step M tf fs1 env1 H1 fs1 env1 H2 := ⟨fun a ha => keep a (List.mem_append_right _ (List.mem_append_right _ ha)), fun _ _ => rfl, fun _ _ => rfl, fun i _ a ha => keep a (List.mem_append_left _ (mem_flat ha)), m⟩
  exact (s12.trans (s5.weak (fun _ z => z) fun x hx => List.mem_append_right _ hx)).weak (fun i hi => (List.mem_append.mp hi).elim id id) fun _ z => z
theorem AOk.le {Ms : List Nat} (h : Le H H') : ∀ {avs : List AV} {vs : List V} {fps : FPs}, AOk C H σ Ms Rs fs ownr avs vs fps → AOk C H' σ Ms Rs fs ownr avs vs fps
  | [], vs, fps, x => x
  | .ro d :: as, vs, fps, ⟨v, vs', fp, fps', e1, e2, r, i, x⟩ => ⟨v, vs', fp, fps', e1, e2, r.le h, i, AOk.le h x⟩
  | .ow d wb :: as, vs, fps, ⟨v, vs', fp, fps', e1, e2, r, i, x⟩ => ⟨v, vs', fp, fps', e1, e2, r.le h, i, AOk.le h x⟩

/-! ### a new object -/
theorem run_makeS {CX : CXT} {k : Nat} {f Ca : Addr} {fd : FuncData} {ps : List Str} {sp : Sp} {E : L2.St → XK} {Q : VK} {us : List Value} {vs : List V} (mk : Mk X.K Ca f) (F : FnOk X.prog X.w X.K X.mg X.base CX k f fd ps sp) (hr : Room (k + 1) X.A) (hb : Binds X.K fd ps [])
    (hx : PassesAt CX X σ (E σ)) (I : Inv X pins σ H s) (r : Vals vs us)
    (h : ∀ x dx, H x = none → H dx = none → dx ≠ x → sp (.ref x :: vs) (upd (upd H dx (.own x)) x (.ins Ca dx [])) (fun v H2 => v = .non ∧ Q (.ref x) H2) (E σ)) :
    wpAny (model X.prog X.w) X.A (call (.ref Ca) us) (EP X pins σ Q) X.xe s := by
  have at0 := h (s.heap.objs.size + 1) s.heap.objs.size (I.hok.fresh (Nat.le_succ _)) (I.hok.fresh (Nat.le_refl _)) (Nat.ne_of_lt (Nat.lt_succ_self _))
  have J := Inv.made (C := Ca) I
  have rv : Vals (V.ref (s.heap.objs.size + 1) :: vs) (Value.ref (s.heap.objs.size + 1) :: us) := .cons rfl r
  have ln : (Value.ref (s.heap.objs.size + 1) :: us).length = ps.length := by
    rw [← rv.length]; exact F.len _ _ _ _ at0
  have bd := hb { s with heap := (s.heap.push PySem.W.emptyDict).push (PySem.W.instObj Ca s.heap.objs.size) } (Value.ref (s.heap.objs.size + 1) :: us) J.kIn (by rw [List.append_nil]; exact ln)
  rw [List.append_nil] at bd
  have run := F.run _ X.stack _ _ ⟨Value.ref (s.heap.objs.size + 1) :: us, []⟩ (Value.ref (s.heap.objs.size + 1) :: us) _ _ (E σ) (hr.make Ca us []) (J.env0.make Ca us []) bd rv at0
  refine wpAny_call (make_map (f := f) I.kIn mk.makes mk.init (beq_iff_eq.mp mk.fn) (codeAny_mono run fun res s' hq => ?_))
  match res, hq with
  | .error ex, hq => exact hx pins _ _ ex s' J hq
  | .ok (.ret u), hq =>
    obtain ⟨v, H', J3, rv3, ev, q3⟩ := J.after hq
    subst ev
    exact ⟨rv3, ⟨V.ref (s.heap.objs.size + 1), H', J3, rfl, q3⟩⟩
  | .ok .next, hq => exact False.elim hq
  | .ok .brk, hq => exact False.elim hq
  | .ok .cont, hq => exact False.elim hq
theorem pe_makeS {CX : CXT} {k : Nat} {f Ca : Addr} {fd : FuncData} {ps : List Str} {sp : Sp} {E : L2.St → XK} {x : Str} {t : TA} (mk : Mk X.K Ca f) (F : FnOk X.prog X.w X.K X.mg X.base CX k f fd ps sp) (hr : Room (k + 1) X.A) (hg : Gl X x) (hm : X.mg x = some (.ref Ca)) (hb : Binds X.K fd ps [])
    (hx : ∀ σ, PassesAt CX X σ (E σ)) (ha : PA X (e :: es) t) (hdb : (x == ("__debug__" : Str)) = false) (he : starEach (e :: es) X.env = (false, eval e X.env) :: starEach es X.env) (hpl : (backTo pos (starEach es X.env)).any (·.1) = false) :
    PE X (.Call (.Name x p) (e :: es) [] pos) (fun σ H Q => t σ H fun vs H1 => ∀ y dx, H1 y = none → H1 dx = none → dx ≠ y → sp (.ref y :: vs) (upd (upd H1 dx (.own y)) y (.ins Ca dx [])) (fun v H2 => v = .non ∧ Q (.ref y) H2) (E σ)) := by
  refine ⟨fun pins s σ H Q I h => ?_⟩
  refine wpAny_Call_Name_kw (ld_glob I hg hm ?_ hdb)
  refine PySem.W.callWith_K (h₀ := X.base) I.ok.mod.kin mk.kp (thn (ha.run pos pins s σ H _ I h) fun us s1 ⟨vs, H1, I1, r, q⟩ => ⟨I1.kIn, ?_⟩) he hpl
  exact run_makeS mk F hr hb (hx σ) I1 r q
/-- the class c may be made, by an __init__ that comes to φ -/
def MkT (P : Program) (w : World) (K : PySem.W.Frag) (mg : Str → Option Value) (base : Heap) (k : Nat) (c : Str) (ps : List Str) (io : List Bool) (φ : List D → FR) : Prop :=
  ∃ (Ca f : Addr) (fd : FuncData), mg c = some (.ref Ca) ∧ Mk K Ca f ∧ FnOk P w K mg base (L2.CX P w) k f fd ps (spF K mg (true :: io) φ) ∧ Binds K fd ps []
theorem MkT.mono {P : Program} {w : World} {K : PySem.W.Frag} {mg : Str → Option Value} {base : Heap} {j k : Nat} {c : Str} {ps : List Str} {io : List Bool} {φ : List D → FR} (F : MkT P w K mg base j c ps io φ) (h : j ≤ k) : MkT P w K mg base k c ps io φ :=
  let ⟨Ca, f, fd, h1, h2, h4, h5⟩ := F
  ⟨Ca, f, fd, h1, h2, h4.mono h, h5⟩
def makeEnd (avs : List AV) (env : Env) : FR → R D
  | .ok .non (self :: os) => if self.nol && nols os then (match putBack avs os env with
    | some env' => .ok self env'
    | none => .err) else .err
  | .ex x (_ :: os) => if nols os then (match putBack avs os env with
    | some env' => .ex x env'
    | none => .err) else .err
  | _ => .err
def cMake (c : Str) (φ : List D → FR) (cr : Env → R (List AV)) : CE := fun env => (cr env).bind fun avs env => makeEnd avs env (φ (.obj .m c [] [] :: avs.map AV.d))
theorem make_go {φ : List D → FR} {t : TA} {E : L2.St → XK} {c : Str} {Ca : Addr} (hmc : X.mg c = some (.ref Ca)) (hE : ∀ σ cls d H, W cls d σ H → E σ cls d H) (hio : ∀ env avs env', cr env = .ok avs env' → avs.map AV.io = io)
    (q : ∀ C fs env σ H tf Q, C.At X → Good C fs env σ H tf → PostR W C M Rs tf fs env σ H Q (cr env) → t σ H Q) :
    ∀ C fs env σ H tf Q, C.At X → Good C fs env σ H tf → PostO W C M tf fs env σ H Q (cMake c φ cr env) →
      t σ H fun vs H1 => ∀ y dx, H1 y = none → H1 dx = none → dx ≠ y → spF X.K X.mg (true :: io) φ (.ref y :: vs) (upd (upd H1 dx (.own y)) y (.ins Ca dx [])) (fun v H2 => v = .non ∧ Q (.ref y) H2) (E σ) := by
  intro C fs env σ H tf Q hC G po
  refine q C fs env σ H tf _ hC G ?_
  unfold cMake at po
  cases e1 : cr env with
  | err => rw [e1] at po; exact po
  | ex x env' => rw [e1] at po; exact po
  | ok avs env1 =>
    rw [e1] at po
    intro vs fs1 H1 fps ownr G1 s1 ao y dx hy hdx hne
    have hio' := hio env avs env1 e1
    have po1 : PostO W C M tf fs env σ H Q (makeEnd avs env1 (φ (.obj .m c [] [] :: avs.map AV.d))) := po
    let Hn := upd (upd H1 dx (.own y)) y (.ins Ca dx [])
    have le : Le H1 Hn := (Le.new hdx).trans (Le.new (by rw [upd_ne (Ne.symm hne)]; exact hy))
    have hnew : Hn y = some (.ins Ca dx []) := upd_same
    have Gn : Good C fs1 env1 σ Hn ([y] ++ (fps.flatten ++ (ownr ++ tf))) := G1.grow le (by simp) (by simpa using hy) fun a ha => by
      simp at ha; subst ha; exact ⟨_, hnew, trivial⟩
    have Gn' : Good C fs1 env1 σ Hn ((y :: fps.flatten) ++ (ownr ++ tf)) := by simpa using Gn
    have aon := ao.le le
    let C' : Ctx := ⟨X.K, X.mg, Hn, y :: fps.flatten, C.Lk⟩
    have hk : C'.K = C.K := hC.1.symm
    have hm : C'.mg = C.mg := hC.2.symm
    have E1 : Enter C C' Hn := ⟨hk, hm, rfl, rfl, Gn.fr, fun x hx => ⟨Gn'.own x (List.mem_append_right _ (List.mem_append_left _ hx)), Gn'.trk x (List.mem_append_right _ (List.mem_append_left _ hx))⟩⟩
    have dis : ∀ b, (b ∈ ownr ∨ ∃ r ∈ Rs, b ∈ fs1.getD r []) → b ∉ C'.A := fun b hb hm' => by
      have nd := (List.nodup_append.mp Gn'.nd).2.1
      rcases hb with z | ⟨r, _, z⟩
      · exact (List.nodup_append.mp nd).2.2 b hm' b (List.mem_append_left _ z) rfl
      · exact Gn'.apartT z (List.mem_append_left _ hm')
    have ar := aon.argR E1 dis
    rw [hio'] at ar
    have rself : Rep C' Hn (.obj .m c [] []) (.ref y) [y] := ⟨y, Ca, dx, [], [y], [], rfl, (by show C'.mg c = _; exact hmc), ⟨hnew, rfl⟩, rfl, ⟨rfl, rfl⟩, .inl rfl, rfl⟩
    refine ⟨C.Lk, .obj .m c [] [] :: avs.map AV.d, [y] :: fps, by simp [ao.len, hio'], ⟨_, _, _, _, [y], fps, rfl, rfl, rfl, rself, .inl rfl, ar⟩, by simpa using (List.nodup_append.mp (List.nodup_append.mp Gn'.nd).2.1).1, Gn.lk, ?_⟩
    have s1n : Step M tf fs env H fs1 env1 Hn := by
      have := s1.trans (Step.grow (M := []) (tf := tf) G1.drop.drop le)
      simpa using this
    cases e2 : φ (.obj .m c [] [] :: avs.map AV.d) with
    | err => rw [e2] at po1; exact po1.elim
    | ok r os =>
      rw [e2] at po1
      cases r with
      | non =>
        cases os with
        | nil => exact po1.elim
        | cons self os =>
          simp only [makeEnd] at po1
          split at po1
          case isFalse => exact po1.elim
          rename_i hn
          have hn := Bool.and_eq_true_iff.mp hn
          cases e3 : putBack avs os env1 with
          | none => rw [e3] at po1; exact po1.elim
          | some env2 =>
            rw [e3] at po1
            intro v H2 fpr fps2 f m rr orr nd hw
            obtain ⟨rfl, rfl⟩ := rr
            obtain ⟨o', os', v', vs', fp0, fpso, e4, e5, e6, ro, orr⟩ := orr
            cases e4; cases e5; subst e6
            obtain ⟨fs2, G2, s2⟩ := call_fin (C' := C') (A' := y :: fps.flatten) (fpr := fp0) hk hm rfl rfl rfl Gn' aon hio' f m orr hn.2 e3 (by simpa using nd) (fun a ha => by have := hw a (by simpa using ha); simpa using this) ro.trk
            exact ⟨rfl, po1 (.ref y) fs2 H2 fp0 G2 ((s1n.trans s2).weak (fun i hi => (List.mem_append.mp hi).elim id id) fun _ z => z) (ro.leave hk hm rfl hn.1)⟩
      | _ => exact po1.elim
    | ex x os =>
      rw [e2] at po1
      cases os with
      | nil => exact po1.elim
      | cons self os =>
        simp only [makeEnd] at po1
        split at po1
        case isFalse => exact po1.elim
        rename_i hn
        cases e3 : putBack avs os env1 with
        | none => rw [e3] at po1; exact po1.elim
        | some env2 =>
          rw [e3] at po1
          intro cv dd H2 fps2 f m hx orr nd hw
          obtain ⟨o', os', v', vs', fp0, fpso, e4, e5, e6, ro, orr⟩ := orr
          cases e4; cases e5; subst e6
          have nd' : (fp0 ++ fpso.flatten).Nodup := by simpa using nd
          obtain ⟨fs2, G2, s2⟩ := call_fin (C' := C') (A' := y :: fps.flatten) (fpr := []) hk hm rfl rfl rfl Gn' aon hio' f m orr hn e3 (by simpa using (List.nodup_append.mp nd').2.1) (fun a ha => by
            have := hw a (by simp at ha ⊢; exact .inr ha); simpa using this) fun _ z => nomatch z
          exact hE σ cv dd H2 (po1 cv dd fs2 H2 (by simpa using G2) ((s1n.trans s2).weak (fun i hi => (List.mem_append.mp hi).elim id id) fun _ z => z) (hx.leave hk hm rfl))
theorem so_make {k : Nat} {x : Str} {ps : List Str} {φ : List D → FR} (F : MkT X.prog X.w X.K X.mg X.base k x ps io φ) (hr : Room (k + 1) X.A) (tk : Takes X W) (ha : SRI X W M Rs io (e :: es) cr) (hg : Gl X x)
    (hdb : (x == ("__debug__" : Str)) = false) (he : starEach (e :: es) X.env = (false, eval e X.env) :: starEach es X.env) (hpl : (backTo pos (starEach es X.env)).any (·.1) = false) :
    SO X W M (.Call (.Name x p) (e :: es) [] pos) (cMake x φ cr) := by
  obtain ⟨Ca, f, fd, h1, h2, h3, h4⟩ := F
  obtain ⟨t, pp, q⟩ := ha.sr.go
  refine ⟨_, pe_makeS (E := WE W) h2 h3 hr hg h1 h4 (fun σ => passAt tk σ) pp hdb he hpl, ?_⟩
  exact make_go (E := WE W) h1 (fun _ _ _ _ h => h) ha.shape q
end
end VS

set_option maxRecDepth 100000
namespace VS
open PySem L2 SeqAt PySem.Spec PyProof.Rows
section
variable {X : Cx} {W : WX} {M M1 M2 M3 V1 V2 V3 Rs R1 R2 R3 : List Nat} {e a b c tg o f : Expr} {es : List Expr} {ca cb cc : CE} {cs : CA} {pos p apos tpos cpos : Pos} {cl : CL} {i : Nat} {io : List Bool}
variable {pins : List (Addr × Obj)} {σ : L2.St} {H H1 H2 H3 H' HA : Hp} {s : Shared} {C C' : Ctx} {fs fs1 fs2 fsA : FPs} {env env1 env2 : Env} {tf tf' own ownr : List Addr}
/-! ### {} and {k: v, ..} -/
theorem so_dict0 : SO X W [] (.Dict [] [] pos) (cK (.dct .m [] [])) := by
  refine ⟨tDNewK, pe_dnewK, fun C fs env σ H tf Q hC G po p np => ?_⟩
  refine po (.ref p) fs (upd H p (.dK [])) [p] (G.grow (Le.new np) (by simp) (by simpa using np) fun a ha => ?_) (Step.grow G (Le.new np)) ⟨p, [], [p], [], rfl, ⟨upd_same, rfl⟩, ⟨rfl, .nil⟩, ⟨rfl, rfl⟩, .inl rfl, rfl⟩
  simp at ha; subst ha; exact ⟨_, upd_same, trivial⟩
def cPairs : List (CE × CE) → Env → R (List (Key × D))
  | [], env => .ok [] env
  | (k, v) :: r, env => (k env).bind fun dk env => (v env).bind fun dv env => (cPairs r env).bind fun ps env => match dk.key with
    | some ky => .ok ((ky, dv) :: ps) env
    | none => .err
def PostPP (W : WX) (C : Ctx) (M : List Nat) (tf : List Addr) (fs : FPs) (env : Env) (σ : L2.St) (H : Hp) (Q : List (V × V) → Hp → Prop) : R (List (Key × D)) → Prop
  | .ok ps env' => ∀ (kvs : List (Key × V)) fs' H' fp, Good C fs' env' σ H' (fp ++ tf) → Step M tf fs env H fs' env' H' → kvs.map (·.1) = ps.map (·.1) → Reps C H' (ps.map (·.2)) (kvs.map (·.2)) fp → Q (kvs.map fun kv => (kV kv.1, kv.2)) H'
  | .ex x env' => ∀ cv dd fs' H', Good C fs' env' σ H' tf → Step M tf fs env H fs' env' H' → ExIs C x cv dd H' → W cv dd σ H'
  | .err => False
structure SPP (X : Cx) (W : WX) (pos : Pos) (M : List Nat) (keys : List (Option Expr)) (values : List Expr) (cps : List (CE × CE)) : Prop where
  go : ∃ trs, PPs X pos keys values trs ∧ ∀ C fs env σ H tf Q, C.At X → Good C fs env σ H tf → PostPP W C M tf fs env σ H Q (cPairs cps env) → tPairs trs σ H Q
theorem spp_nil : SPP X W pos [] [] [] [] := by
  refine ⟨[], pps_nil, fun C fs env σ H tf Q hC G po => ?_⟩
  exact po [] fs H [] (by simpa using G) .refl rfl ⟨rfl, rfl⟩
theorem spp_cons {keys : List (Option Expr)} {values : List Expr} {cps : List (CE × CE)} (hk : SB X W M1 R1 a ca) (hv : SO X W M2 b cb) (hr : SPP X W pos M3 keys values cps) : SPP X W pos (M1 ++ (M2 ++ M3)) (some a :: keys) (b :: values) ((ca, cb) :: cps) := by
  obtain ⟨t, p, q⟩ := hk.go
  obtain ⟨t2, p2, q2⟩ := hv.go
  obtain ⟨trs, p3, q3⟩ := hr.go
  refine ⟨(t, t2) :: trs, pps_cons p p2 p3, fun C fs env σ H tf Q hC G po => ?_⟩
  refine q C fs env σ H tf _ hC G ?_
  unfold cPairs at po
  cases e1 : ca env with
  | err => rw [e1] at po; exact po
  | ex x env' => rw [e1] at po; exact fun cv dd fs' H' G' s => po cv dd fs' H' G' (s.weak mem_l fun _ z => z)
  | ok dk env1 =>
    rw [e1] at po
    intro vk fs1 H1 fk ownk G1 s1 rk ik
    refine q2 C fs1 env1 σ H1 tf _ hC G1.drop ?_
    have po1 : PostPP W C (M1 ++ (M2 ++ M3)) tf fs env σ H Q ((cb env1).bind fun dv env => (cPairs cps env).bind fun ps env => match dk.key with
      | some ky => .ok ((ky, dv) :: ps) env
      | none => .err) := po
    cases e2 : cb env1 with
    | err => rw [e2] at po1; exact po1
    | ex x env' => rw [e2] at po1; exact fun cv dd fs' H' G' s => po1 cv dd fs' H' G' ((s1.trans s).weak (fun i hi => by rcases List.mem_append.mp hi with z | z <;> simp [z]) fun _ z => z)
    | ok dv env2 =>
      rw [e2] at po1
      intro vv fs2 H2 fv G2 s2 rv
      refine q3 C fs2 env2 σ H2 (fv ++ tf) _ hC G2 ?_
      have po2 : PostPP W C (M1 ++ (M2 ++ M3)) tf fs env σ H Q ((cPairs cps env2).bind fun ps env => match dk.key with
        | some ky => .ok ((ky, dv) :: ps) env
        | none => .err) := po1
      cases e3 : cPairs cps env2 with
      | err => rw [e3] at po2; exact po2
      | ex x env' => rw [e3] at po2; exact fun cv dd fs' H' G' s => po2 cv dd fs' H' G'.drop (s1.trans (s2.trans (s.weak (fun _ z => z) fun x hx => List.mem_append_right _ hx)))
      | ok ps env3 =>
        rw [e3] at po2
        intro kvs fs3 H3 fp G3 s3 hks rs
        have po3 : PostPP W C (M1 ++ (M2 ++ M3)) tf fs env σ H Q (match dk.key with
          | some ky => .ok ((ky, dv) :: ps) env3
          | none => .err) := po2
        cases e4 : dk.key with
        | none => rw [e4] at po3; exact po3.elim
        | some ky =>
          rw [e4] at po3
          have := key_of e4 rk
          subst this
          have po4 : ∀ (kvs : List (Key × V)) fs' H' fp, Good C fs' env3 σ H' (fp ++ tf) → Step (M1 ++ (M2 ++ M3)) tf fs env H fs' env3 H' → kvs.map (·.1) = ((ky, dv) :: ps).map (·.1) → Reps C H' (((ky, dv) :: ps).map (·.2)) (kvs.map (·.2)) fp → Q (kvs.map fun kv => (kV kv.1, kv.2)) H' := po3
          refine po4 ((ky, vv) :: kvs) fs3 H3 (fv ++ fp) (G3.perm ?_) (s1.trans (s2.trans (s3.weak (fun _ z => z) fun x hx => List.mem_append_right _ hx))) (by simp [hks]) ⟨vv, kvs.map (·.2), fv, fp, rfl, rv.keep (fun x hx => s3.t x (List.mem_append_left _ hx)) s3.m, rs, rfl⟩
          rw [List.append_assoc]; exact List.perm_append_comm_assoc _ _ _
def cDisp (cps : List (CE × CE)) : CE := fun env => (cPairs cps env).bind fun ps env => if ps.length ≤ 15 ∧ (ps.map (·.1)).Nodup then .ok (.dct .m (ps.map (·.1)) (ps.map (·.2))) env else if ps.length ≤ 15 ∧ imms (ps.map (·.2)) = true then .ok (.dct .m (mkD ps).1 (mkD ps).2) env else .err
theorem mergeK_nd : ∀ {more kvs : List (Key × V)}, (kvs.map (·.1) ++ more.map (·.1)).Nodup → mergeK kvs more = kvs ++ more
  | [], kvs, _ => by simp [mergeK]
  | p :: r, kvs, h => by
    have hn : valV kvs p.1 = none := by
      have hp : p.1 ∉ kvs.map (·.1) := fun z => (List.nodup_append.mp h).2.2 p.1 z p.1 (by simp) rfl
      clear h
      induction kvs with
      | nil => rfl
      | cons kv kvs ih =>
        have h1 : ¬ kv.1 = p.1 := fun z => hp (by simp [z])
        rw [valV_neg h1]
        exact ih fun z => hp (by simp only [List.map_cons, List.mem_cons]; exact .inr z)
    have e1 := putK_new p.2 hn
    show mergeK (putK kvs p.1 p.2) r = _
    rw [e1]
    have := mergeK_nd (more := r) (kvs := kvs ++ [(p.1, p.2)]) (by simpa using h)
    rw [this]; simp
theorem so_disp {keys : List (Option Expr)} {values : List Expr} {cps : List (CE × CE)} (h : SPP X W pos M keys values cps) (hall : keys.all (·.isSome) = true) (hl : keys.length = values.length) (h0 : keys ≠ []) (h15 : keys.length ≤ 15) : SO X W M (.Dict keys values pos) (cDisp cps) := by
  obtain ⟨trs, pp, q⟩ := h.go
  refine ⟨tDisp trs, pe_disp pp hall hl h0 h15, fun C fs env σ H tf Q hC G po p np => ?_⟩
  have le0 := Le.new (o := .dK []) np
  have G0 : Good C fs env σ (upd H p (.dK [])) ([p] ++ tf) := G.grow le0 (by simp) (by simpa using np) fun a ha => by
    simp at ha; subst ha; exact ⟨_, upd_same, trivial⟩
  have s0 : Step [] tf fs env H fs env (upd H p (.dK [])) := Step.grow G le0
  refine q C fs env σ _ ([p] ++ tf) _ hC G0 ?_
  unfold cDisp at po
  cases e1 : cPairs cps env with
  | err => rw [e1] at po; exact po
  | ex x env' => rw [e1] at po; exact fun cv dd fs' H' G' s => po cv dd fs' H' G'.drop (s0.trans (s.weak (fun _ z => z) fun x hx => List.mem_append_right _ hx))
  | ok ps env1 =>
    rw [e1] at po
    intro kvs fs1 H1 fp G1 s1 hks rs
    have hp1 : H1 p = some (.dK []) := by rw [s1.t p (by simp)]; exact upd_same
    refine ⟨hp1, kvs, rfl, ?_⟩
    have po1 : PostO W C M tf fs env σ H Q (if ps.length ≤ 15 ∧ (ps.map (·.1)).Nodup then .ok (.dct .m (ps.map (·.1)) (ps.map (·.2))) env1 else if ps.length ≤ 15 ∧ imms (ps.map (·.2)) = true then .ok (.dct .m (mkD ps).1 (mkD ps).2) env1 else .err) := po
    have hlen : kvs.length = ps.length := by have := congrArg List.length hks; simpa using this
    have G1' : Good C fs1 env1 σ H1 (p :: (fp ++ tf)) := G1.perm (by
      have : (p :: (fp ++ tf)).Perm (fp ++ ([p] ++ tf)) := (List.perm_middle (l₁ := fp) (l₂ := tf) (a := p)).symm
      exact this)
    have fin : ∀ (kd : List Key × List D), (mergeK [] kvs).map (·.1) = kd.1 → kd.1.Nodup → (∀ H', Mono H1 H' → (∀ a ∈ fp, H' a = H1 a) → Reps C H' kd.2 ((mergeK [] kvs).map (·.2)) fp) → PostO W C M tf fs env σ H Q (.ok (.dct .m kd.1 kd.2) env1) → Q (.ref p) (upd H1 p (.dK (mergeK [] kvs))) := by
      intro kd h1 h2 h3 po2
      have mu := Mono.upd (o := .dK (mergeK [] kvs)) hp1 trivial
      have npf : ∀ a ∈ fp, a ≠ p := fun a ha e => by
        subst e
        have nd := (List.nodup_append.mp G1'.nd).2.1
        exact (List.nodup_cons.mp nd).1 (List.mem_append_left _ ha)
      have G2 : Good C fs1 env1 σ (upd H1 p (.dK (mergeK [] kvs))) (p :: (fp ++ tf)) := G1'.updT hp1 trivial trivial
      have s2 : Step [] tf fs1 env1 H1 fs1 env1 (upd H1 p (.dK (mergeK [] kvs))) := (Step.updT G1' hp1 trivial).weak (fun _ z => z) fun x hx => List.mem_append_right _ hx
      refine po2 (.ref p) fs1 _ (p :: fp) G2 ?_ ⟨p, mergeK [] kvs, [p], fp, rfl, ⟨upd_same, rfl⟩, ⟨h1, h2⟩, h3 _ mu fun a ha => upd_ne (npf a ha), .inl rfl, rfl⟩
      have := (s0.trans (s1.weak (M' := M) (tf' := tf) (fun _ z => z) fun x hx => List.mem_append_right _ hx)).trans s2
      simpa using this
    split at po1
    · rename_i hc
      refine ⟨by rw [hlen]; exact hc.1, fin (ps.map (·.1), ps.map (·.2)) ?_ hc.2 (fun H' m k => ?_) po1⟩
      · rw [mergeK_nd (by simpa [hks] using hc.2)]; simpa using hks
      · rw [mergeK_nd (by simpa [hks] using hc.2)]
        simpa using rs.keep k m
    · split at po1
      · rename_i hc
        have z := rs.imm hc.2
        subst z
        refine ⟨by rw [hlen]; exact hc.1, fin (mkD ps) ?_ ?_ (fun H' m k => ?_) po1⟩
        · exact (merge_rep (C := C) (H := H1) (acc := []) (kd := ([], [])) hks rs rfl .nil ⟨rfl, rfl⟩).1
        · exact (merge_rep (C := C) (H := H1) (acc := []) (kd := ([], [])) hks rs rfl .nil ⟨rfl, rfl⟩).2.1
        · have := (merge_rep (C := C) (H := H1) (acc := []) (kd := ([], [])) hks rs rfl .nil ⟨rfl, rfl⟩).2.2
          exact this.keep (fun _ z => nomatch z) m
      · exact po1.elim
end
end VS

set_option maxRecDepth 100000
namespace VS
open PySem L2 SeqAt PySem.Spec PyProof.Rows
section
variable {X : Cx} {W : WX} {Ma Mb Mc V1 V2 V3 Rs R1 R2 R3 : List Nat} {e a b c tg o f : Expr} {es : List Expr} {ca cb cc cd : CE} {cs : CA} {pos p apos tpos cpos : Pos} {cl : CL} {i : Nat} {io : List Bool}
variable {pins : List (Addr × Obj)} {σ : L2.St} {H H1 H2 H3 H' HA : Hp} {s : Shared} {C C' : Ctx} {fs fs1 fs2 fsA : FPs} {env env1 env2 : Env} {tf tf' own ownr : List Addr}
/-! ### d.get -/
def isDct : D → Bool
  | .dct _ _ _ => true
  | _ => false
theorem isDct_inv {d : D} (h : isDct d = true) : ∃ g ks ds, d = .dct g ks ds := by
  cases d <;> simp [isDct] at h
  exact ⟨_, _, _, rfl⟩
def getD2 : D → D → D → Option D
  | .dct _ ks ds, y, x => y.key.map fun k => (lookD ks ds k).getD x
  | _, _, _ => none
def cGet1 (cd cb : CE) : CE := fun env => (cd env).bind fun d env => if isDct d then ((cb env).bind fun y env => R.of (getD2 d y .non) env) else .err
def cGet2 (cd cb cc : CE) : CE := fun env => (cd env).bind fun d env => if isDct d then ((cb env).bind fun y env => (cc env).bind fun x env => R.of (getD2 d y x) env) else .err
theorem get_fin {g : Fl} {ks : List Key} {ds : List D} {ad : Addr} {fp : List Addr} {y : D} {w : V} {fw : List Addr} {ky : Key} (hF : Fr C H) (r : Rep C H (.dct g ks ds) (.ref ad) fp) (hky : y.key = some ky) (rw' : Rep C H y w fw) :
    ∃ ov, DGet H ad w ov ∧ (match lookD ks ds ky with
      | none => ov = none
      | some x => ∃ vx hx, ov = some vx ∧ Rep C H x vx hx ∧ ∀ a ∈ hx, a ∈ fp) := by
  obtain ⟨ad2, kvs, g3, g4, e5, hd, hk, rz, ef⟩ := rep_dct hF r
  cases e5
  have ey := key_of hky rw'
  subst hk
  cases e6 : lookD (kvs.map (·.1)) ds ky with
  | none => exact ⟨none, .inl ⟨kvs, ky, hd, ey, (look_none rz e6).symm⟩, rfl⟩
  | some x =>
    obtain ⟨vx, h1', hx, h2', k1, k2, k3⟩ := look_rep rz e6
    exact ⟨some vx, .inl ⟨kvs, ky, hd, ey, k1.symm⟩, vx, hx, rfl, k2, fun a ha => by rw [ef, k3]; simp [ha]⟩
theorem sb_get2 {k : Nat} (hr : Room k X.A) (hd : SB X W Ma R1 o cd) (hb : SB X W Mb R2 e cb) (hc : SO X W Mc f cc) (m : L2.M2 X o "get" apos e f cpos) (h1 : djB R1 (Mb ++ Mc) = true) (h2 : djB R2 Mc = true) :
    SB X W (Ma ++ (Mb ++ Mc)) R1 (.Call (.Attribute o "get" apos) [e, f] [] cpos) (cGet2 cd cb cc) := by
  obtain ⟨t, p, q⟩ := hd.go
  obtain ⟨t2, p2, q2⟩ := hb.go
  obtain ⟨t3, p3, q3⟩ := hc.go
  refine ⟨tDGet2 t t2 t3, pe_dget2 (by have := hr.units; omega) p p2 p3 m, fun C fs env σ H tf Q hC G po => q C fs env σ H tf _ hC G ?_⟩
  unfold cGet2 at po
  cases e1 : cd env with
  | err => rw [e1] at po; exact po
  | ex x env' => rw [e1] at po; exact fun cv dd fs' H' G' s => po cv dd fs' H' G' (s.weak mem_l fun _ z => z)
  | ok d env1 =>
    rw [e1] at po
    intro v fs1 H1 fp own G1 s1 r i1
    have po0 : PostB W C (Ma ++ (Mb ++ Mc)) R1 tf fs env σ H Q (if isDct d then ((cb env1).bind fun y env => (cc env).bind fun x env => R.of (getD2 d y x) env) else .err) := po
    split at po0
    case isFalse => exact po0.elim
    rename_i hdc
    obtain ⟨g, ks, ds, rfl⟩ := isDct_inv hdc
    have r0 := r
    obtain ⟨ad, kvs, g1, g2, rfl, hd, hk, rz, ef⟩ := rep_dct G1.fr r
    refine ⟨ad, rfl, .inl ⟨kvs, hd⟩, q2 C fs1 env1 σ H1 (own ++ tf) _ hC G1 ?_⟩
    cases e2 : cb env1 with
    | err => rw [e2] at po0; exact po0
    | ex x env' => rw [e2] at po0; exact fun cv dd fs' H' G' s => po0 cv dd fs' H' G'.drop ((s1.trans (s.weak (fun _ z => z) fun x hx => List.mem_append_right _ hx)).weak (fun i hi => by rcases List.mem_append.mp hi with z | z <;> simp [z]) fun _ z => z)
    | ok y env2 =>
      rw [e2] at po0
      intro w fs2 H2 fw ownw G2 s2 rw' iw
      refine q3 C fs2 env2 σ H2 (ownw ++ (own ++ tf)) _ hC G2 ?_
      have po2 : PostB W C (Ma ++ (Mb ++ Mc)) R1 tf fs env σ H Q ((cc env2).bind fun x env => R.of (getD2 (.dct g ks ds) y x) env) := po0
      have i2 := i1.step (own2 := ownw) s2 (djB_ok (M := Mb) (by
        unfold djB at h1 ⊢; simp at h1 ⊢; exact fun x hx => (h1 x hx).1))
      cases e3 : cc env2 with
      | err => rw [e3] at po2; exact po2
      | ex x env' => rw [e3] at po2; exact fun cv dd fs' H' G' s => po2 cv dd fs' H' G'.drop.drop ((s1.trans (s2.weak (fun _ z => z) fun x hx => List.mem_append_right _ hx)).trans (s.weak (fun _ z => z) fun x hx => List.mem_append_right _ (List.mem_append_right _ hx)) |>.weak (fun i hi => by
          rcases List.mem_append.mp hi with z | z
          · rcases List.mem_append.mp z with z | z <;> simp [z]
          · simp [z]) fun _ z => z)
      | ok x env3 =>
        rw [e3] at po2
        intro vx fs3 H3 fx G3 s3 rx
        have po3 : PostB W C (Ma ++ (Mb ++ Mc)) R1 tf fs env σ H Q (R.of (getD2 (.dct g ks ds) y x) env3) := po2
        have hMb : ∀ r ∈ R1, r ∉ Mb := djB_ok (by unfold djB at h1 ⊢; simp at h1 ⊢; exact fun x hx => (h1 x hx).1)
        have hMc : ∀ r ∈ R1, r ∉ Mc := djB_ok (by unfold djB at h1 ⊢; simp at h1 ⊢; exact fun x hx => (h1 x hx).2)
        have s3w : Step Mc ((ownw ++ own) ++ tf) fs2 env2 H2 fs3 env3 H3 := s3.weak (fun _ z => z) fun x hx => by rw [List.append_assoc] at hx; exact hx
        have r2 : Rep C H3 (.dct g ks ds) (.ref ad) fp := (r0.keep (i1.keep s2 hMb) s2.m).keep (i2.keep s3w hMc) s3.m
        have rw3 : Rep C H3 y w fw := rw'.keep (iw.keep (tf := own ++ tf) s3 (djB_ok h2)) s3.m
        cases e4 : getD2 (.dct g ks ds) y x with
        | none => rw [e4] at po3; exact po3.elim
        | some z =>
          rw [e4] at po3
          obtain ⟨ky, hky, rfl⟩ := Option.map_eq_some_iff.mp e4
          obtain ⟨ov, hg, hov⟩ := get_fin G3.fr r2 hky rw3
          refine ⟨ov, hg, ?_⟩
          have st := (s1.trans (s2.weak (M' := Mb) (tf' := tf) (fun _ z => z) fun x hx => List.mem_append_right _ hx)).trans (s3.weak (M' := Mc) (tf' := tf) (fun _ z => z) fun x hx => List.mem_append_right _ (List.mem_append_right _ hx))
          have st' : Step (Ma ++ (Mb ++ Mc)) tf fs env H fs3 env3 H3 := st.weak (fun i hi => by
            rcases List.mem_append.mp hi with z | z
            · rcases List.mem_append.mp z with z | z <;> simp [z]
            · simp [z]) fun _ z => z
          cases e6 : lookD ks ds ky with
          | none =>
            rw [e6] at hov
            subst hov
            rw [e6] at po3
            exact po3 vx fs3 H3 fx fx (G3.sub ((List.Sublist.refl _).append ((List.sublist_append_right _ _).trans (List.sublist_append_right _ _)))) st' rx fun a ha => .inl ha
          | some x' =>
            rw [e6] at hov
            obtain ⟨vx', hx, rfl, k2, k3⟩ := hov
            rw [e6] at po3
            refine po3 vx' fs3 H3 hx (ownw ++ own) (G3.sub ?_) st' k2 fun a ha => ?_
            · rw [List.append_assoc]; exact List.sublist_append_right _ _
            · exact (i2.step (own2 := []) (tf := tf) s3w hMc).mono (fun _ z => z) (fun a ha => by simpa using ha) a (k3 a ha)
  all_goals skip
theorem sb_get1 {k : Nat} (hr : Room k X.A) (hd : SB X W Ma R1 o cd) (hb : SB X W Mb R2 e cb) (m : L2.M1 X o "get" apos e cpos) (h1 : djB R1 Mb = true) : SB X W (Ma ++ Mb) R1 (.Call (.Attribute o "get" apos) [e] [] cpos) (cGet1 cd cb) := by
  obtain ⟨t, p, q⟩ := hd.go
  obtain ⟨t2, p2, q2⟩ := hb.go
  refine ⟨tDGet1 t t2, pe_dget1 (by have := hr.units; omega) p p2 m, fun C fs env σ H tf Q hC G po => q C fs env σ H tf _ hC G ?_⟩
  unfold cGet1 at po
  cases e1 : cd env with
  | err => rw [e1] at po; exact po
  | ex x env' => rw [e1] at po; exact fun cv dd fs' H' G' s => po cv dd fs' H' G' (s.weak mem_l fun _ z => z)
  | ok d env1 =>
    rw [e1] at po
    intro v fs1 H1 fp own G1 s1 r i1
    have po0 : PostB W C (Ma ++ Mb) R1 tf fs env σ H Q (if isDct d then ((cb env1).bind fun y env => R.of (getD2 d y .non) env) else .err) := po
    split at po0
    case isFalse => exact po0.elim
    rename_i hdc
    obtain ⟨g, ks, ds, rfl⟩ := isDct_inv hdc
    have r0 := r
    obtain ⟨ad, kvs, g1, g2, rfl, hd, hk, rz, ef⟩ := rep_dct G1.fr r
    refine ⟨ad, rfl, .inl ⟨kvs, hd⟩, q2 C fs1 env1 σ H1 (own ++ tf) _ hC G1 ?_⟩
    cases e2 : cb env1 with
    | err => rw [e2] at po0; exact po0
    | ex x env' => rw [e2] at po0; exact fun cv dd fs' H' G' s => po0 cv dd fs' H' G'.drop (s1.trans (s.weak (fun _ z => z) fun x hx => List.mem_append_right _ hx))
    | ok y env2 =>
      rw [e2] at po0
      intro w fs2 H2 fw ownw G2 s2 rw' iw
      have po3 : PostB W C (Ma ++ Mb) R1 tf fs env σ H Q (R.of (getD2 (.dct g ks ds) y .non) env2) := po0
      have r2 : Rep C H2 (.dct g ks ds) (.ref ad) fp := r0.keep (i1.keep s2 (djB_ok h1)) s2.m
      have st := s1.trans (s2.weak (M' := Mb) (tf' := tf) (fun _ z => z) fun x hx => List.mem_append_right _ hx)
      cases e4 : getD2 (.dct g ks ds) y .non with
      | none => rw [e4] at po3; exact po3.elim
      | some z =>
        rw [e4] at po3
        obtain ⟨ky, hky, rfl⟩ := Option.map_eq_some_iff.mp e4
        obtain ⟨ov, hg, hov⟩ := get_fin G2.fr r2 hky rw'
        refine ⟨ov, hg, ?_⟩
        cases e6 : lookD ks ds ky with
        | none =>
          rw [e6] at hov
          subst hov
          rw [e6] at po3
          exact po3 .non fs2 H2 [] [] (by simpa using G2.drop.drop) st ⟨rfl, rfl⟩ fun a ha => nomatch ha
        | some x' =>
          rw [e6] at hov
          obtain ⟨vx', hx, rfl, k2, k3⟩ := hov
          rw [e6] at po3
          refine po3 vx' fs2 H2 hx (ownw ++ own) (by rw [List.append_assoc]; exact G2) st k2 fun a ha => ?_
          exact i1.step (own2 := ownw) s2 (djB_ok h1) a (k3 a ha)
/-! ### d.setdefault(k, x) as a place -/
def setdD : D → D → D → Option (Option D × D × (D → D))
  | .dct .m ks ds, y, x => y.key.bind fun k => if ks.length < sizeLine then (match idxK ks k with
    | some j => (ds[j]?).map fun z => (none, z, fun w => .dct .m ks (ds.set j w))
    | none => some (some (.dct .m (ks ++ [k]) (ds ++ [x])), x, fun w => .dct .m (ks ++ [k]) ((ds ++ [x]).set ds.length w))) else none
  | _, _, _ => none
def lSetd (i : Nat) (cl : CL) (cb cc : CE) : CL := fun env => (cl env).bind fun dF env => if isDct dF.1 then ((cb env).bind fun y env => (cc env).bind fun x env => match setdD dF.1 y x with
  | some (some d', z, G) => .ok (z, dF.2 ∘ G) (env.set i (some (dF.2 d')))
            | some (none, z, G) => .ok (z, dF.2 ∘ G) env
  | none => .err) else .err
theorem put_get_self {i : Nat} {d : D} {env : Env} (h : env[i]? = some (some d)) : env.set i (some d) = env := by
  obtain ⟨h1, h2⟩ := List.getElem?_eq_some_iff.mp h
  conv => rhs; rw [← List.set_getElem_self (as := env) (i := i) h1]
  rw [h2]
theorem Foc.same {d : D} {v : V} {g1 : List Addr} {d' : D} {v' : V} {fp' g2 : List Addr} {F : D → D} (Fo : Foc C H d v g1 d' v' fp' g2 F) : Rep C H (F d') v (g1 ++ fp' ++ g2) := Fo.back H d' fp' (.refl H) (fun _ _ => rfl) Fo.here
theorem reps_snoc {ds : List D} {vs : List V} {x : D} {v : V} {f g : List Addr} (r : Reps C H ds vs f) (rx : Rep C H x v g) : Reps C H (ds ++ [x]) (vs ++ [v]) (f ++ g) := reps_append r ⟨v, [], g, [], rfl, rx, ⟨rfl, rfl⟩, by simp⟩
theorem idx_snoc : ∀ {ks : List Key} {ky : Key}, idxK ks ky = none → idxK (ks ++ [ky]) ky = some ks.length
  | [], ky, _ => by simp [idxK]
  | k0 :: ks, ky, h => by
    simp only [idxK] at h
    by_cases hk : k0 = ky
    · rw [if_pos hk] at h; cases h
    · rw [if_neg hk] at h
      show (if k0 = ky then some 0 else (idxK (ks ++ [ky]) ky).map (· + 1)) = _
      rw [if_neg hk, idx_snoc (ks := ks) (by simpa using h)]; simp
theorem foc_dj {ks : List Key} {ds : List D} {kvs : List (Key × V)} {ad : Addr} {f2 : List Addr} {ky : Key} {j : Nat} {z : D} (hH : H ad = some (.dK kvs)) (hks : kvs.map (·.1) = ks ∧ ks.Nodup) (rs : Reps C H ds (kvs.map (·.2)) f2) (hj : idxK ks ky = some j) (hz : ds[j]? = some z) :
    ∃ w g1 fo g2, valV kvs ky = some w ∧ f2 = g1 ++ fo ++ g2 ∧ Foc C H (.dct .m ks ds) (.ref ad) (ad :: g1) z w fo g2 (fun y => .dct .m ks (ds.set j y)) := by
  obtain ⟨w', g1, fo, g2, h1, h2, h3, h4⟩ := reps_set rs hz
  have hj' := hj
  rw [← hks.1] at hj'
  obtain ⟨hv1, hv2⟩ := idx_val hj'
  refine ⟨w', g1, fo, g2, by rw [hv1]; rw [List.getElem?_map] at h1; exact h1, h3, h2, fun H' y f' m k' r' => ?_⟩
  have hs := h4 H' y w' f' m (fun b hb => k' b (by simp at hb ⊢; rcases hb with z | z <;> simp [z])) r'
  have e : (kvs.map (·.2)).set j w' = kvs.map (·.2) := by
    obtain ⟨q1, q2⟩ := List.getElem?_eq_some_iff.mp h1
    conv => rhs; rw [← List.set_getElem_self (as := kvs.map (·.2)) (i := j) q1]
    rw [q2]
  rw [e] at hs
  exact ⟨ad, kvs, [ad], _, rfl, ⟨by rw [k' ad (by simp)]; exact hH, rfl⟩, hks, hs, .inl rfl, by simp⟩
theorem sl_setd (ho : SL X W i Ma o cl) (hb : SB X W Mb R2 e cb) (hc : SO X W Mc f cc) (m : L2.M2 X o "setdefault" apos e f cpos) (hi : djB [i] (Mb ++ Mc) = true) (h2 : djB R2 Mc = true) :
    SL X W i (Ma ++ (Mb ++ (Mc ++ [i]))) (.Call (.Attribute o "setdefault" apos) [e, f] [] cpos) (lSetd i cl cb cc) := by
  obtain ⟨t, p, q⟩ := ho.go
  obtain ⟨t2, p2, q2⟩ := hb.go
  obtain ⟨t3, p3, q3⟩ := hc.go
  refine ⟨tDSetd t t2 t3, pe_dsetd p p2 p3 m, fun C fs env σ H tf Q hC G po => q C fs env σ H tf _ hC G ?_⟩
  unfold lSetd at po
  have wk : ∀ {i : Nat}, i ∈ Ma → i ∈ Ma ++ (Mb ++ (Mc ++ [i])) := fun h => by simp [h]
  cases e1 : cl env with
  | err => rw [e1] at po; exact po
  | ex x env' => rw [e1] at po; exact fun cv dd fs' H' G' s => po cv dd fs' H' G' (s.weak mem_l fun _ z => z)
  | ok dF env1 =>
    rw [e1] at po
    intro v' fs1 H1 d v g1 fp' g2 G1 s1 hd hv hf Fo
    have po0 : PostL W C i (Ma ++ (Mb ++ (Mc ++ [i]))) tf fs env σ H Q (if isDct dF.1 then ((cb env1).bind fun y env => (cc env).bind fun x env => match setdD dF.1 y x with
      | some (some d', z, G) => .ok (z, dF.2 ∘ G) (env.set i (some (dF.2 d')))
            | some (none, z, G) => .ok (z, dF.2 ∘ G) env
      | none => .err) else .err) := po
    split at po0
    case isFalse => exact po0.elim
    rename_i hdc
    obtain ⟨g, ks, ds, hdf⟩ := isDct_inv hdc
    have Fh := Fo.here
    rw [hdf] at Fh
    obtain ⟨ad, kvs0, _, _, rfl, hdd, _, _, _⟩ := rep_dct G1.fr Fh
    refine ⟨ad, rfl, .inl ⟨kvs0, hdd⟩, q2 C fs1 env1 σ H1 tf _ hC G1 ?_⟩
    cases e2 : cb env1 with
    | err => rw [e2] at po0; exact po0
    | ex x env' => rw [e2] at po0; exact fun cv dd fs' H' G' s => po0 cv dd fs' H' G' ((s1.trans s).weak (fun i hi => by rcases List.mem_append.mp hi with z | z <;> simp [z]) fun _ z => z)
    | ok y env2 =>
      rw [e2] at po0
      intro w fs2 H2 fw ownw G2 s2 rw' iw
      have ni : i ∉ Mb := fun z => djB_ok hi i (by simp) (by simp [z])
      have ni3 : i ∉ Mc := fun z => djB_ok hi i (by simp) (by simp [z])
      refine q3 C fs2 env2 σ H2 (ownw ++ tf) _ hC G2 ?_
      have po1 : PostL W C i (Ma ++ (Mb ++ (Mc ++ [i]))) tf fs env σ H Q ((cc env2).bind fun x env => match setdD dF.1 y x with
        | some (some d', z, G) => .ok (z, dF.2 ∘ G) (env.set i (some (dF.2 d')))
            | some (none, z, G) => .ok (z, dF.2 ∘ G) env
        | none => .err) := po0
      cases e3 : cc env2 with
      | err => rw [e3] at po1; exact po1
      | ex x env' => rw [e3] at po1; exact fun cv dd fs' H' G' s => po1 cv dd fs' H' G'.drop (((s1.trans s2).trans (s.weak (fun _ z => z) fun x hx => List.mem_append_right _ hx)).weak (fun i hi => by
          rcases List.mem_append.mp hi with z | z
          · rcases List.mem_append.mp z with z | z <;> simp [z]
          · simp [z]) fun _ z => z)
      | ok x env3 =>
        rw [e3] at po1
        intro vx fs3 H3 fx G3 s3 rx
        have G3' : Good C fs3 env3 σ H3 (fx ++ tf) := G3.sub ((List.Sublist.refl _).append (List.sublist_append_right _ _))
        have Fo2 := Fo.keep s2.m (fun a ha => s2.h i ni a (by rw [hf]; exact ha))
        have hf2 : fs2.getD i [] = g1 ++ fp' ++ g2 := by rw [s2.f i ni]; exact hf
        have Fo3 := Fo2.keep s3.m (fun a ha => s3.h i ni3 a (by rw [hf2]; exact ha))
        have hd3 : env3[i]? = some (some d) := by rw [s3.e i ni3, s2.e i ni]; exact hd
        have hf3 : fs3.getD i [] = g1 ++ fp' ++ g2 := by rw [s3.f i ni3]; exact hf2
        have rw3 : Rep C H3 y w fw := rw'.keep (iw.keep s3 (djB_ok h2)) s3.m
        have st : Step (Ma ++ (Mb ++ Mc)) tf fs env H fs3 env3 H3 := ((s1.trans s2).trans (s3.weak (fun _ z => z) fun x hx => List.mem_append_right _ hx)).weak (fun i hi => by
          rcases List.mem_append.mp hi with z | z
          · rcases List.mem_append.mp z with z | z <;> simp [z]
          · simp [z]) fun _ z => z
        have po2 : PostL W C i (Ma ++ (Mb ++ (Mc ++ [i]))) tf fs env σ H Q (match setdD dF.1 y x with
          | some (some d', z, G) => .ok (z, dF.2 ∘ G) (env3.set i (some (dF.2 d')))
          | some (none, z, G) => .ok (z, dF.2 ∘ G) env3
          | none => .err) := po1
        obtain ⟨df1, dF2⟩ := dF
        simp only at hdf
        subst hdf
        have Fo3' : Foc C H3 d v g1 (.dct g ks ds) (.ref ad) fp' g2 dF2 := Fo3
        cases e4 : setdD (.dct g ks ds) y x with
        | none => rw [e4] at po2; exact po2.elim
        | some r3 =>
          rw [e4] at po2
          obtain ⟨d', z, Gf⟩ := r3
          cases g with
          | m =>
            obtain ⟨ky, hky, e4⟩ := Option.bind_eq_some_iff.mp (show y.key.bind _ = some (d', z, Gf) from e4)
            split at e4
            case isFalse => cases e4
            rename_i hlen
            have r3 := Fo3'.here
            obtain ⟨ad', kvs, f1, f2, e5, ⟨hH, rfl⟩, hks, rs, _, rfl⟩ := r3
            cases e5
            have ey := key_of hky rw3
            have hl : kvs.length < sizeLine := by
              have : kvs.length = ks.length := by rw [← hks.1]; simp
              omega
            refine ⟨kvs, ky, hH, ey, hl, fun v0 hv0 => ?_, fun hv0 => ?_⟩
            · -- the key is there
              cases e6 : idxK ks ky with
              | none => rw [← hks.1] at e6; rw [idx_none e6] at hv0; cases hv0
              | some j =>
                rw [e6] at e4
                obtain ⟨z', hz', e4⟩ := Option.map_eq_some_iff.mp e4
                cases e4
                obtain ⟨w0, h1', fo, h2', k1, k2, k3⟩ := foc_dj hH hks rs e6 hz'
                rw [hv0] at k1; cases k1
                have po3 : PostL W C i (Ma ++ (Mb ++ (Mc ++ [i]))) tf fs env σ H Q (.ok (z, dF2 ∘ fun w => .dct .m ks (ds.set j w)) env3) := po2
                refine po3 v0 fs3 H3 d v (g1 ++ (ad :: h1')) fo (h2' ++ g2) (by simpa using G3'.drop) (st.weak (fun i hi => by
                  rcases List.mem_append.mp hi with z | z
                  · simp [z]
                  · rcases List.mem_append.mp z with z | z <;> simp [z]) fun _ z => z) hd3 hv ?_ (Fo3'.comp k3 (by rw [k2]; simp))
                rw [hf3, k2]; simp [List.append_assoc]
            · cases e6 : idxK ks ky with
              | some j =>
                rw [← hks.1] at e6
                obtain ⟨q1, q2⟩ := idx_val e6
                rw [q1, List.getElem?_eq_getElem q2] at hv0; cases hv0
              | none =>
                rw [e6] at e4
                cases e4
                have q' := e6
                rw [← hks.1] at q'
                have e1' := putK_new vx (idx_none q')
                have ndp := place_nd G3' hd3 hf3
                have nda : ad ∉ f2 ++ fx := by simp at ndp ⊢; exact ⟨ndp.1.1, ndp.1.2⟩
                have mu := Mono.upd (o := .dK (putK kvs ky vx)) hH trivial
                have kp : ∀ b, b ≠ ad → upd H3 ad (.dK (putK kvs ky vx)) b = H3 b := fun b hb => upd_ne hb
                have hks2 : (putK kvs ky vx).map (·.1) = ks ++ [ky] ∧ (ks ++ [ky]).Nodup := ⟨by rw [e1', List.map_append, hks.1]; rfl, List.nodup_append.mpr ⟨hks.2, by simp, fun x hx y hy e => by
                  simp at hy; subst hy; subst e; exact idx_not e6 hx⟩⟩
                have rs2 : Reps C (upd H3 ad (.dK (putK kvs ky vx))) (ds ++ [x]) ((putK kvs ky vx).map (·.2)) (f2 ++ fx) := by
                  have hs2 : (putK kvs ky vx).map (·.2) = kvs.map (·.2) ++ [vx] := by rw [e1', List.map_append]; rfl
                  rw [hs2]
                  exact reps_snoc (rs.keep (fun b hb => kp b fun z => nda (by subst z; simp [hb])) mu) (rx.keep (fun b hb => kp b fun z => nda (by subst z; simp [hb])) mu)
                have rD : Rep C (upd H3 ad (.dK (putK kvs ky vx))) (.dct .m (ks ++ [ky]) (ds ++ [x])) (.ref ad) (ad :: (f2 ++ fx)) := ⟨ad, putK kvs ky vx, [ad], _, rfl, ⟨upd_same, rfl⟩, hks2, rs2, .inl rfl, rfl⟩
                have ch : ∀ a o, H3 a = some o → a ∉ ([ad] ++ f2) → upd H3 ad (.dK (putK kvs ky vx)) a = some o := fun b o e hb => by rw [kp b fun z => hb (by simp [z])]; exact e
                obtain ⟨Gn, sn⟩ := place_put G3' hd3 hv hf3 Fo3' mu ch rD (by simpa using ndp) fun a ha => by
                  simp at ha
                  rcases ha with z | z | z <;> simp [z]
                have hidx : idxK (ks ++ [ky]) ky = some ds.length := by
                  have hl1 : ks.length = ds.length := by rw [reps_length rs, ← hks.1]; simp
                  rw [← hl1]; exact idx_snoc e6
                obtain ⟨w0, h1', fo, h2', k1, k2, k3⟩ := foc_dj (C := C) (z := x) upd_same hks2 rs2 hidx (by simp)
                have hw0 : w0 = vx := by
                  have := idx_val (kvs := putK kvs ky vx) (k := ky) (j := ds.length) (by rw [hks2.1]; exact hidx)
                  rw [e1'] at this k1
                  have hlk : kvs.length = ds.length := by rw [reps_length rs]; simp
                  rw [this.1] at k1
                  rw [← hlk] at k1
                  simpa using k1.symm
                subst hw0
                have FoN : Foc C (upd H3 ad (.dK (putK kvs ky w0))) (dF2 (.dct .m (ks ++ [ky]) (ds ++ [x]))) v g1 (.dct .m (ks ++ [ky]) (ds ++ [x])) (.ref ad) (ad :: (f2 ++ fx)) g2 dF2 := by
                  refine ⟨rD, fun H' d'' fp'' m4 k4 r4 => Fo3'.back H' d'' fp'' (mu.trans m4) (fun a ha => (k4 a ha).trans (kp a fun z => ?_)) r4⟩
                  subst z
                  have nd1 := (List.nodup_append.mp G3'.nd).1
                  have nd2 := (List.nodup_append.mp ((flat_get fs3 (G3'.lt hd3)).nodup_iff.mp nd1)).1
                  rw [hf3] at nd2
                  have pp : (g1 ++ ([a] ++ f2) ++ g2).Perm (([a] ++ f2) ++ (g1 ++ g2)) := by
                    rw [List.append_assoc]; exact List.perm_append_comm_assoc _ _ _
                  exact (List.nodup_append.mp (pp.nodup_iff.mp nd2)).2.2 a (by simp) a ha rfl
                have po3 : PostL W C i (Ma ++ (Mb ++ (Mc ++ [i]))) tf fs env σ H Q (.ok (x, dF2 ∘ fun w => .dct .m (ks ++ [ky]) ((ds ++ [x]).set ds.length w)) (env3.set i (some (dF2 (.dct .m (ks ++ [ky]) (ds ++ [x])))))) := po2
                have hli : i < env3.length := (List.getElem?_eq_some_iff.mp hd3).1
                refine po3 w0 _ _ (dF2 (.dct .m (ks ++ [ky]) (ds ++ [x]))) v (g1 ++ (ad :: h1')) fo (h2' ++ g2) Gn ((st.trans sn).weak (fun i hi => by
                  rcases List.mem_append.mp hi with z | z
                  · rcases List.mem_append.mp z with z | z
                    · simp [z]
                    · rcases List.mem_append.mp z with z | z <;> simp [z]
                  · simp [z]) fun _ z => z) (by simp [hli]) hv ?_ (FoN.comp k3 (by rw [k2]; simp))
                rw [getD_set fs3 i i _ (G3'.lt hd3), if_pos rfl, k2]; simp [List.append_assoc]
          | _ => cases e4
end
end VS

set_option maxRecDepth 100000
namespace VS
open PySem L2 SeqAt PySem.Spec PyProof.Rows
section
variable {X : Cx} {C : Ctx} {H H' : Hp}
theorem reps_split : ∀ {ds : List D} {vs : List V} {f : List Addr} (n : Nat), Reps C H ds vs f → ∃ g1 g2, f = g1 ++ g2 ∧ Reps C H (ds.take n) (vs.take n) g1 ∧ Reps C H (ds.drop n) (vs.drop n) g2
  | ds, vs, f, 0, r => ⟨[], f, by simp, ⟨rfl, rfl⟩, by simpa using r⟩
  | [], vs, f, n + 1, r => by obtain ⟨h1, h2⟩ := r; subst h1 h2; exact ⟨[], [], rfl, ⟨rfl, rfl⟩, ⟨rfl, rfl⟩⟩
  | d :: ds, vs, f, n + 1, ⟨v, vs', f1, f2, e, r, rs, e2⟩ => by
    obtain ⟨g1, g2, h1, h2, h3⟩ := reps_split n rs
    subst e e2 h1
    exact ⟨f1 ++ g1, g2, by simp, ⟨v, vs'.take n, f1, g1, by simp, r, h2, rfl⟩, by simpa using h3⟩
theorem reps_erase : ∀ {ds : List D} {vs : List V} {f : List Addr} {k : Nat} {x : D}, Reps C H ds vs f → ds[k]? = some x → ∃ w g1 h g2, vs[k]? = some w ∧ Rep C H x w h ∧ f = g1 ++ h ++ g2 ∧ Reps C H (ds.eraseIdx k) (vs.eraseIdx k) (g1 ++ g2)
  | [], vs, f, k, x, _, h => by simp at h
  | d :: ds, vs, f, 0, x, ⟨v, vs', f1, f2, e, r, rs, e2⟩, h => by
    simp at h; subst h; subst e
    exact ⟨v, [], f1, f2, by simp, r, by simpa using e2, by simpa using rs⟩
  | d :: ds, vs, f, k + 1, x, ⟨v, vs', f1, f2, e, r, rs, e2⟩, h => by
    subst e
    obtain ⟨w, g1, h', g2, h1, h2, h3, h4⟩ := reps_erase (k := k) rs (by simpa using h)
    exact ⟨w, f1 ++ g1, h', g2, by simpa using h1, h2, by rw [e2, h3]; simp, v, vs'.eraseIdx k, f1, g1 ++ g2, by simp, r, h4, by simp⟩
theorem reps_reverse : ∀ {ds : List D} {vs : List V} {f : List Addr}, Reps C H ds vs f → ∃ g, Reps C H ds.reverse vs.reverse g ∧ g.Perm f
  | [], vs, f, ⟨h1, h2⟩ => by subst h1 h2; exact ⟨[], ⟨rfl, rfl⟩, .refl _⟩
  | d :: ds, vs, f, ⟨v, vs', f1, f2, e, r, rs, e2⟩ => by
    subst e e2
    obtain ⟨g, h1, h2⟩ := reps_reverse rs
    refine ⟨g ++ f1, ?_, (h2.append_right f1).trans List.perm_append_comm⟩
    simp only [List.reverse_cons]
    exact reps_snoc h1 r
/-- a list of ours has other items from now on -/
theorem list_upd {ds' : List D} {vs vs' : List V} {a : Addr} {f f' fpa : List Addr} (hH : H a = some (.lst vs)) (nd : (a :: f ++ fpa).Nodup) (h : ∀ H', Mono H H' → (∀ b ∈ f ++ fpa, H' b = H b) → Reps C H' ds' vs' f') :
    Mono H (upd H a (.lst vs')) ∧ (∀ b o, H b = some o → b ∉ a :: f → upd H a (.lst vs') b = some o) ∧ Rep C (upd H a (.lst vs')) (.lst .m ds') (.ref a) (a :: f') ∧ ∀ b ∈ f ++ fpa, upd H a (.lst vs') b = H b := by
  have m := Mono.upd (o := .lst vs') hH trivial
  have nda : a ∉ f ++ fpa := (List.nodup_cons.mp (by simpa using nd)).1
  have kp : ∀ b ∈ f ++ fpa, upd H a (.lst vs') b = H b := fun b hb => upd_ne fun z => nda (z ▸ hb)
  refine ⟨m, fun b o e hb => ?_, ⟨a, vs', [a], f', rfl, ⟨upd_same, rfl⟩, h _ m kp, .inl rfl, rfl⟩, kp⟩
  rw [upd_ne fun z => hb (by simp [z])]; exact e

def mInsert : D → List D → Option (D × D)
  | .lst .m ds, [.int i, x] => if ds.length < sizeLine ∧ 0 ≤ i ∧ i < 2 ^ 63 then some (.lst .m (ds.take i.toNat ++ [x] ++ ds.drop i.toNat), .non) else none
  | _, _ => none
theorem mu_insert : MuOk X "list" (fun x vs H Q => ∃ (l : Addr) (xs : List V) (i : Int) (y : V), x = .ref l ∧ vs = [.int i, y] ∧ H l = some (.lst xs) ∧ xs.length < sizeLine ∧ 0 ≤ i ∧ i < 2 ^ 63 ∧ Q .non (upd H l (.lst (xs.take i.toNat ++ [y] ++ xs.drop i.toNat)))) kdL mInsert := by
  refine ⟨?_, ty_list⟩
  intro C H v d fp vs ds fpa Q d' res hC hF r ra nd h k
  unfold mInsert at h
  split at h
  case h_2 => cases h
  rename_i ds i x
  split at h
  case isFalse => cases h
  rename_i hz
  cases h
  obtain ⟨a, ws, f, rfl, hH, rs, rfl⟩ := rep_m r
  obtain ⟨vi, vx, f1, f2, rfl, ri, rx, rfl⟩ := reps2 ra
  obtain ⟨rfl, rfl⟩ := ri
  obtain ⟨g1, g2, rfl, h1, h2⟩ := reps_split i.toNat rs
  obtain ⟨m, ch, rp, _⟩ := list_upd (C := C) (ds' := ds.take i.toNat ++ [x] ++ ds.drop i.toNat) (vs' := ws.take i.toNat ++ [vx] ++ ws.drop i.toNat) (f := g1 ++ g2) (f' := g1 ++ f2 ++ g2) (fpa := f2) hH (by simpa using nd) fun H' m k =>
    reps_append (reps_snoc (h1.keep (fun b hb => k b (by simp [hb])) m) (rx.keep (fun b hb => k b (by simp [hb])) m)) (h2.keep (fun b hb => k b (by simp [hb])) m)
  refine ⟨a, ws, i, vx, rfl, rfl, hH, by rw [← reps_length rs]; exact hz.1, hz.2.1, hz.2.2, ?_⟩
  refine k _ .non (a :: (g1 ++ f2 ++ g2)) [] m ch rp ⟨rfl, rfl⟩ ?_ fun b hb => ?_
  · have p : (a :: (g1 ++ f2 ++ g2) ++ []).Perm (a :: (g1 ++ g2) ++ ([] ++ f2)) := by
      simp only [List.append_nil, List.nil_append, List.cons_append]
      refine List.Perm.cons a ?_
      rw [List.append_assoc, List.append_assoc]
      exact List.Perm.append_left g1 List.perm_append_comm
    exact p.nodup_iff.mpr nd
  · simp at hb ⊢
    rcases hb with z | z | z | z <;> simp [z]
def mPopAt : D → List D → Option (D × D)
  | .lst .m ds, [.int i] => if -(2 ^ 63) ≤ i ∧ i < 2 ^ 63 then (seqIndex? i ds.length).bind fun k => (ds[k]?).map fun x => (.lst .m (ds.eraseIdx k), x) else none
  | _, _ => none
theorem mu_popAt : MuOk X "list" rPopAt kdL mPopAt := by
  refine ⟨?_, ty_list⟩
  intro C H v d fp vs ds fpa Q d' res hC hF r ra nd h k
  unfold mPopAt at h
  split at h
  case h_2 => cases h
  rename_i ds i
  split at h
  case isFalse => cases h
  rename_i hz
  obtain ⟨j, hj, h⟩ := Option.bind_eq_some_iff.mp h
  obtain ⟨x, hx, h⟩ := Option.map_eq_some_iff.mp h
  cases h
  obtain ⟨a, ws, f, rfl, hH, rs, rfl⟩ := rep_m r
  obtain ⟨vi, rfl, ri⟩ := reps1 ra
  obtain ⟨rfl, rfl⟩ := ri
  obtain ⟨w, g1, hx', g2, k1, k2, rfl, k4⟩ := reps_erase rs hx
  obtain ⟨m, ch, rp, kp⟩ := list_upd (C := C) (ds' := ds.eraseIdx j) (vs' := ws.eraseIdx j) (f := g1 ++ hx' ++ g2) (f' := g1 ++ g2) (fpa := []) hH (by simpa using nd) fun H' m k =>
    k4.keep (fun b hb => k b (by simp at hb ⊢; rcases hb with z | z <;> simp [z])) m
  refine ⟨a, ws, i, j, w, rfl, rfl, hH, hz.1, hz.2, by rw [← reps_length rs]; exact hj, k1, ?_⟩
  refine k _ w (a :: (g1 ++ g2)) hx' m ch rp (k2.keep (fun b hb => kp b (by simp [hb])) m) ?_ fun b hb => ?_
  · have p : (a :: (g1 ++ g2) ++ hx').Perm (a :: (g1 ++ hx' ++ g2) ++ []) := by
      simp only [List.append_nil, List.cons_append]
      refine List.Perm.cons a ?_
      rw [List.append_assoc, List.append_assoc]
      exact List.Perm.append_left g1 List.perm_append_comm
    exact p.nodup_iff.mpr nd
  · simp at hb ⊢
    rcases hb with z | z | z | z <;> simp [z]
def mReverse : D → List D → Option (D × D)
  | .lst .m ds, [] => some (.lst .m ds.reverse, .non)
  | _, _ => none
theorem mu_reverse : MuOk X "list" rReverse kdL mReverse := by
  refine ⟨?_, ty_list⟩
  intro C H v d fp vs ds fpa Q d' res hC hF r ra nd h k
  unfold mReverse at h
  split at h
  case h_2 => cases h
  rename_i ds
  cases h
  obtain ⟨a, ws, f, rfl, hH, rs, rfl⟩ := rep_m r
  obtain ⟨rfl, rfl⟩ := ra
  obtain ⟨g, hg, pg⟩ := reps_reverse rs
  obtain ⟨m, ch, rp, kp⟩ := list_upd (C := C) (ds' := ds.reverse) (vs' := ws.reverse) (f := f) (f' := g) (fpa := []) hH (by simpa using nd) fun H' m k =>
    hg.keep (fun b hb => k b (by simpa using pg.mem_iff.mp hb)) m
  refine ⟨a, ws, rfl, rfl, hH, k _ .non (a :: g) [] m ch rp ⟨rfl, rfl⟩ ?_ fun b hb => ?_⟩
  · have p : (a :: g ++ []).Perm (a :: f ++ []) := by simpa using pg.cons a
    exact p.nodup_iff.mpr nd
  · simp at hb ⊢
    rcases hb with z | z
    · simp [z]
    · simp [pg.mem_iff.mp z]
def mClear : D → List D → Option (D × D)
  | .lst .m _, [] => some (.lst .m [], .non)
  | _, _ => none
theorem mu_clear : MuOk X "list" rClear kdL mClear := by
  refine ⟨?_, ty_list⟩
  intro C H v d fp vs ds fpa Q d' res hC hF r ra nd h k
  unfold mClear at h
  split at h
  case h_2 => cases h
  rename_i ds
  cases h
  obtain ⟨a, ws, f, rfl, hH, rs, rfl⟩ := rep_m r
  obtain ⟨rfl, rfl⟩ := ra
  obtain ⟨m, ch, rp, kp⟩ := list_upd (C := C) (ds' := []) (vs' := []) (f := f) (f' := []) (fpa := []) hH (by simpa using nd) fun H' m k => ⟨rfl, rfl⟩
  refine ⟨a, ws, rfl, rfl, hH, k _ .non [a] [] m ch rp ⟨rfl, rfl⟩ (by simp) fun b hb => ?_⟩
  simp at hb; simp [hb]
def mExtend : D → List D → Option (D × D)
  | .lst .m ds, [.lst .m es] => if ds.length + es.length ≤ sizeLine then some (.lst .m (ds ++ es), .non) else none
  | _, _ => none
theorem mu_extend : MuOk X "list" rExtend kdL mExtend := by
  refine ⟨?_, ty_list⟩
  intro C H v d fp vs ds fpa Q d' res hC hF r ra nd h k
  unfold mExtend at h
  split at h
  case h_2 => cases h
  rename_i ds es
  split at h
  case isFalse => cases h
  rename_i hz
  cases h
  obtain ⟨a, ws, f, rfl, hH, rs, rfl⟩ := rep_m r
  obtain ⟨ve, rfl, re⟩ := reps1 ra
  obtain ⟨b, zs, f2, rfl, hB, rz, rfl⟩ := rep_m re
  obtain ⟨m, ch, rp, kp⟩ := list_upd (C := C) (ds' := ds ++ es) (vs' := ws ++ zs) (f := f) (f' := f ++ f2) (fpa := b :: f2) hH (by simpa using nd) fun H' m k =>
    reps_append (rs.keep (fun b hb => k b (by simp [hb])) m) (rz.keep (fun b hb => k b (by simp [hb])) m)
  refine ⟨a, b, ws, zs, rfl, rfl, hH, hB, by rw [← reps_length rs, ← reps_length rz]; exact hz, k _ .non (a :: (f ++ f2)) [] m ch rp ⟨rfl, rfl⟩ ?_ fun c hc => ?_⟩
  · have p : (a :: f ++ b :: f2).Perm (b :: (a :: (f ++ f2) ++ [])) := by
      have := List.perm_middle (l₁ := a :: f) (l₂ := f2) (a := b)
      simpa using this
    exact (List.nodup_cons.mp (p.nodup_iff.mp nd)).2
  · simp at hc ⊢
    rcases hc with z | z | z <;> simp [z]
end
section
variable {X : Cx} {W : WX} {Ma Mb Mc V1 V2 V3 Rs R1 R2 R3 : List Nat} {e f a b c tg o : Expr} {es : List Expr} {ca cb cc : CE} {cs : CA} {ct : CT} {pos p apos cpos : Pos} {cl : CL} {i : Nat}
theorem so_insert (ho : SL X W i Ma o cl) (ha : SAO X W Mb (e :: es) cs)
    (hi : djB [i] Mb = true) (hbase : attributeBase o "insert" X.env (eval o X.env) = eval o X.env)
    (hfew : ((backTo cpos (starEach (e :: es) X.env)).all (fun x => !x.1) && (backToKw cpos (keywordEach [] X.env)).all (fun x => x.1.isSome)
      && decide ((e :: es).length + ([] : List Keyword).length + (if ([] : List Keyword).isEmpty then 0 else 1) < 30)) = true)
    (hline : (apos.endLine == cpos.line) = true) (hs : starEach (e :: es) X.env = (false, eval e X.env) :: starEach es X.env) (hplain : (backTo cpos (starEach es X.env)).any (·.1) = false) :
    SO X W (Ma ++ (Mb ++ [i])) (.Call (.Attribute o "insert" apos) (e :: es) [] cpos) (cMut i kdL mInsert cl cs) :=
  so_mut mu_insert PySem.F.plainAttrs_list PySem.F.slot_list_insert PySem.F.type_list_insert mt_insert ho ha hi hbase hfew hline hs hplain
theorem so_popAt (ho : SL X W i Ma o cl) (ha : SAO X W Mb (e :: es) cs)
    (hi : djB [i] Mb = true) (hbase : attributeBase o "pop" X.env (eval o X.env) = eval o X.env)
    (hfew : ((backTo cpos (starEach (e :: es) X.env)).all (fun x => !x.1) && (backToKw cpos (keywordEach [] X.env)).all (fun x => x.1.isSome)
      && decide ((e :: es).length + ([] : List Keyword).length + (if ([] : List Keyword).isEmpty then 0 else 1) < 30)) = true)
    (hline : (apos.endLine == cpos.line) = true) (hs : starEach (e :: es) X.env = (false, eval e X.env) :: starEach es X.env) (hplain : (backTo cpos (starEach es X.env)).any (·.1) = false) :
    SO X W (Ma ++ (Mb ++ [i])) (.Call (.Attribute o "pop" apos) (e :: es) [] cpos) (cMut i kdL mPopAt cl cs) :=
  so_mut mu_popAt PySem.F.plainAttrs_list PySem.F.slot_list_pop PySem.F.type_list_pop mt_popAt ho ha hi hbase hfew hline hs hplain
theorem so_extend (ho : SL X W i Ma o cl) (ha : SAO X W Mb (e :: es) cs)
    (hi : djB [i] Mb = true) (hbase : attributeBase o "extend" X.env (eval o X.env) = eval o X.env)
    (hfew : ((backTo cpos (starEach (e :: es) X.env)).all (fun x => !x.1) && (backToKw cpos (keywordEach [] X.env)).all (fun x => x.1.isSome)
      && decide ((e :: es).length + ([] : List Keyword).length + (if ([] : List Keyword).isEmpty then 0 else 1) < 30)) = true)
    (hline : (apos.endLine == cpos.line) = true) (hs : starEach (e :: es) X.env = (false, eval e X.env) :: starEach es X.env) (hplain : (backTo cpos (starEach es X.env)).any (·.1) = false) :
    SO X W (Ma ++ (Mb ++ [i])) (.Call (.Attribute o "extend" apos) (e :: es) [] cpos) (cMut i kdL mExtend cl cs) :=
  so_mut mu_extend PySem.F.plainAttrs_list PySem.F.slot_list_extend PySem.F.type_list_extend mt_extend ho ha hi hbase hfew hline hs hplain
theorem so_pop0 (ho : SL X W i Ma o cl) (hbase : attributeBase o "pop" X.env (eval o X.env) = eval o X.env) (hline : (apos.endLine == cpos.line) = true) :
    SO X W (Ma ++ ([] ++ [i])) (.Call (.Attribute o "pop" apos) [] [] cpos) (cMut i kdL mPop cl cNil) :=
  so_mut0 mu_pop PySem.F.plainAttrs_list PySem.F.slot_list_pop PySem.F.type_list_pop mt_pop ho hbase hline
theorem so_reverse (ho : SL X W i Ma o cl) (hbase : attributeBase o "reverse" X.env (eval o X.env) = eval o X.env) (hline : (apos.endLine == cpos.line) = true) :
    SO X W (Ma ++ ([] ++ [i])) (.Call (.Attribute o "reverse" apos) [] [] cpos) (cMut i kdL mReverse cl cNil) :=
  so_mut0 mu_reverse PySem.F.plainAttrs_list PySem.F.slot_list_reverse PySem.F.type_list_reverse mt_reverse ho hbase hline
theorem so_clear (ho : SL X W i Ma o cl) (hbase : attributeBase o "clear" X.env (eval o X.env) = eval o X.env) (hline : (apos.endLine == cpos.line) = true) :
    SO X W (Ma ++ ([] ++ [i])) (.Call (.Attribute o "clear" apos) [] [] cpos) (cMut i kdL mClear cl cNil) :=
  so_mut0 mu_clear PySem.F.plainAttrs_list PySem.F.slot_list_clear PySem.F.type_list_clear mt_clear ho hbase hline
end
end VS

set_option maxRecDepth 100000
namespace VS
open PySem L2 SeqAt PySem.Spec PyProof.Rows
/-! ### a tree as plain data -/
mutual
def D.py : D → Option PyData
  | .non => some .none
  | .bl b => some (.bool b)
  | .int i => some (.int i)
  | .str s => some (.str s)
  | .tup ds => (pys ds).map .tuple
  | .lst _ ds => (pys ds).map .list
  | _ => none
def pys : List D → Option (List PyData)
  | [] => some []
  | d :: ds => d.py.bind fun y => (pys ds).map fun ys => y :: ys
end
def pyO (d : D) : PyData := d.py.getD .none
section
variable {X : Cx} {C : Ctx} {H H' : Hp} {pins : List (Addr × Obj)} {σ : L2.St} {s : Shared}
mutual
theorem reads_rep (I : Inv X pins σ H s) (hC : C.At X) (hF : Fr C H) : ∀ {d : D} {y : PyData} {v : V} {fp : List Addr} {u : Value}, d.py = some y → Rep C H d v fp → RelV v u → ∃ as, Reads s.heap u y as ∧ ∀ a ∈ as, a < s.heap.objs.size
  | .non, y, v, fp, u, h, ⟨e, _⟩, r => by cases h; subst e; cases (show u = Value.none from r); exact ⟨[], .none, fun _ z => nomatch z⟩
  | .bl b, y, v, fp, u, h, ⟨e, _⟩, r => by cases h; subst e; cases (show u = Value.bool b from r); exact ⟨[], .bool b, fun _ z => nomatch z⟩
  | .int i, y, v, fp, u, h, ⟨e, _⟩, r => by cases h; subst e; obtain ⟨t, rfl⟩ := (show ∃ t, u = Value.int i t from r); exact ⟨[], .int i t, fun _ z => nomatch z⟩
  | .str z, y, v, fp, u, h, ⟨e, _⟩, r => by cases h; subst e; obtain ⟨t, rfl⟩ := (show ∃ t, u = Value.str z t from r); exact ⟨[], .str z t, fun _ z => nomatch z⟩
  | .tup ds, y, v, fp, u, h, rp, r => by
    obtain ⟨ys, hy, rfl⟩ := Option.map_eq_some_iff.mp h
    obtain ⟨a, vs, rfl, q, rs⟩ := rep_tup hC rp
    cases (show u = Value.ref a from r)
    obtain ⟨its, rv, ⟨o, e, hc, n, hd⟩, _⟩ := I.tuple q
    obtain ⟨as, h1, h2⟩ := readsAll_rep I hC hF hy rs rv
    exact ⟨as, .tuple e hc hd (by simpa using h1), h2⟩
  | .lst g ds, y, v, fp, u, h, rp, r => by
    obtain ⟨ys, hy, rfl⟩ := Option.map_eq_some_iff.mp h
    obtain ⟨a, vs, f, rfl, q, rs⟩ := rep_list hC hF rp
    cases (show u = Value.ref a from r)
    obtain ⟨its, rv, ⟨o, n, e, hc, hdi, hd⟩, _⟩ := I.list q
    obtain ⟨as, h1, h2⟩ := readsAll_rep I hC hF hy rs rv
    exact ⟨a :: as, .list e hc hd (by simpa using h1), fun b hb => by
      rcases List.mem_cons.mp hb with z | z
      · rw [z]; exact Heap.lt_size e
      · exact h2 b z⟩
  | .ty _, _, _, _, _, h, _, _ => by cases h
  | .dct _ _ _, _, _, _, _, h, _, _ => by cases h
  | .obj _ _ _ _, _, _, _, _, h, _, _ => by cases h
theorem readsAll_rep (I : Inv X pins σ H s) (hC : C.At X) (hF : Fr C H) : ∀ {ds : List D} {ys : List PyData} {vs : List V} {fp : List Addr} {us : List Value}, pys ds = some ys → Reps C H ds vs fp → Vals vs us → ∃ as, ReadsAll s.heap us ys as ∧ ∀ a ∈ as, a < s.heap.objs.size
  | [], ys, vs, fp, us, h, ⟨e, _⟩, r => by cases h; subst e; cases r; exact ⟨[], .nil, fun _ z => nomatch z⟩
  | d :: ds, ys, vs, fp, us, h, ⟨v, vs', f1, f2, e, rd, rs, _⟩, r => by
    obtain ⟨y, hy, h⟩ := Option.bind_eq_some_iff.mp h
    obtain ⟨ys', hys, rfl⟩ := Option.map_eq_some_iff.mp h
    subst e
    cases r with
    | cons r1 r2 =>
      obtain ⟨as, h1, h2⟩ := reads_rep I hC hF hy rd r1
      obtain ⟨bs, h3, h4⟩ := readsAll_rep I hC hF hys rs r2
      exact ⟨as ++ bs, .cons h1 h3, fun a ha => (List.mem_append.mp ha).elim (h2 a) (h4 a)⟩
end
theorem pys_map : ∀ {ds : List D} {ys : List PyData}, pys ds = some ys → ys = ds.map pyO
  | [], ys, h => by cases h; rfl
  | d :: ds, ys, h => by
    obtain ⟨y, hy, h⟩ := Option.bind_eq_some_iff.mp h
    obtain ⟨ys', hys, rfl⟩ := Option.map_eq_some_iff.mp h
    simp [pyO, hy, pys_map hys]
theorem pys_mem : ∀ {ds : List D} {ys : List PyData} {d : D}, pys ds = some ys → d ∈ ds → d.py = some (pyO d)
  | d0 :: ds, ys, d, h, hd => by
    obtain ⟨y, hy, h⟩ := Option.bind_eq_some_iff.mp h
    obtain ⟨ys', hys, rfl⟩ := Option.map_eq_some_iff.mp h
    rcases List.mem_cons.mp hd with z | z
    · subst z; simp [pyO, hy]
    · exact pys_mem hys z
theorem each_rel : ∀ {ds : List D} {vs : List V} {us : List Value}, ds.length = vs.length → Vals vs us → PySem.W.EachIs (fun (u : Value) (b : D × V) => RelV b.2 u) us (ds.zip vs)
  | [], [], us, _, r => by cases r; exact .nil
  | d :: ds, v :: vs, us, h, r => by
    cases r with
    | cons r1 r2 => exact .cons r1 (each_rel (by simpa using h) r2)
theorem each_reads (I : Inv X pins σ H s) (hC : C.At X) (hF : Fr C H) : ∀ {ds : List D} {ys : List PyData} {vs : List V} {fp : List Addr} {us : List Value}, pys ds = some ys → Reps C H ds vs fp → Vals vs us →
    PySem.W.EachIs (fun (u : Value) (b : D × V) => ∃ as, Reads s.heap u (pyO b.1) as ∧ ∀ a ∈ as, a < s.heap.objs.size) us (ds.zip vs)
  | [], ys, vs, fp, us, h, ⟨e, _⟩, r => by subst e; cases r; exact .nil
  | d :: ds, ys, vs, fp, us, h, ⟨v, vs', f1, f2, e, rd, rs, _⟩, r => by
    obtain ⟨y, hy, h⟩ := Option.bind_eq_some_iff.mp h
    obtain ⟨ys', hys, rfl⟩ := Option.map_eq_some_iff.mp h
    subst e
    cases r with
    | cons r1 r2 =>
      obtain ⟨as, h1, h2⟩ := reads_rep I hC hF hy rd r1
      exact .cons ⟨as, by simpa [pyO, hy] using h1, h2⟩ (each_reads I hC hF hys rs r2)
theorem each_vals : ∀ {us : List Value} {bs : List (D × V)}, PySem.W.EachIs (fun (u : Value) (b : D × V) => RelV b.2 u) us bs → Vals (bs.map (·.2)) us
  | [], [], _ => .nil
  | u :: us, b :: bs, h => by
    cases h with
    | cons h1 h2 => exact .cons h1 (each_vals h2)
theorem reps_of_pairs : ∀ {bs : List (D × V)}, (∀ b ∈ bs, Rep C H b.1 b.2 []) → Reps C H (bs.map (·.1)) (bs.map (·.2)) []
  | [], _ => ⟨rfl, rfl⟩
  | b :: bs, h => ⟨b.2, bs.map (·.2), [], [], rfl, h b (by simp), reps_of_pairs fun c hc => h c (by simp [hc]), rfl⟩
theorem pairs_of_reps : ∀ {ds : List D} {vs : List V}, Reps C H ds vs [] → ∀ b ∈ ds.zip vs, Rep C H b.1 b.2 []
  | [], vs, _, b, hb => by simp at hb
  | d :: ds, vs, ⟨v, vs', f1, f2, e, r, rs, e2⟩, b, hb => by
    subst e
    obtain ⟨z1, z2⟩ := List.append_eq_nil_iff.mp e2.symm
    subst z1 z2
    rw [List.zip_cons_cons] at hb
    rcases List.mem_cons.mp hb with z | z
    · subst z; exact r
    · exact pairs_of_reps rs b z
end

/-! ### sorted(..) -/
def leD (a b : D) : Bool := PySem.W.dataLe false pyO a b
def alikeB (ds : List D) : Bool := ds.all fun d => ds.all fun e => PySem.W.alike (pyO d) (pyO e)
def sortableB (ds : List D) : Bool := (ds.all fun d => match pyO d with
  | .tuple (_ :: _) => true
  | _ => false) || ds.all fun d => match pyO d with
  | .none => false
  | .tuple _ => false
  | _ => true
def shallowB (ds : List D) : Bool := ds.all fun d => decide ((pyO d).depth ≤ 20)
def sortOk (ds : List D) : Bool := (pys ds).isSome && imms ds && alikeB ds && sortableB ds && shallowB ds && decide (ds.length ≤ sizeLine)
theorem alikeB_ok {ds : List D} (h : alikeB ds = true) : PySem.W.AllAlike (ds.map pyO) := by
  intro x hx y hy
  obtain ⟨d, hd, rfl⟩ := List.mem_map.mp hx
  obtain ⟨e, he, rfl⟩ := List.mem_map.mp hy
  exact List.all_eq_true.mp (List.all_eq_true.mp h d hd) e he
theorem sortableB_ok {ds : List D} (h : sortableB ds = true) : PySem.W.Sortable (ds.map pyO) := by
  rcases Bool.or_eq_true_iff.mp h with h | h
  · left
    intro x hx
    obtain ⟨d, hd, rfl⟩ := List.mem_map.mp hx
    have := List.all_eq_true.mp h d hd
    split at this
    · rename_i y r e; exact ⟨y, r, e⟩
    · cases this
  · right
    intro x hx
    obtain ⟨d, hd, rfl⟩ := List.mem_map.mp hx
    have := List.all_eq_true.mp h d hd
    split at this
    · cases this
    · cases this
    · rename_i h1 h2
      exact ⟨h1, fun xs e => h2 xs e⟩
section
variable {X : Cx} {C : Ctx} {H H' : Hp} {pins : List (Addr × Obj)} {σ : L2.St} {s : Shared}
theorem zip_fst {α β : Type} : ∀ {xs : List α} {ys : List β}, xs.length = ys.length → (xs.zip ys).map (·.1) = xs
  | [], [], _ => rfl
  | x :: xs, y :: ys, h => by simp [zip_fst (xs := xs) (ys := ys) (by simpa using h)]
/-- sorted(x), from what x is collected to -/
theorem sorted_by (I : Inv X pins σ H s) {k : Nat} (hr : Room k X.A) (hC : C.At X) (hF : Fr C H) {u : Value} {ds : List D} {vs : List V} {Q : VK} (hok : sortOk ds = true) (rs : Reps C H ds vs [])
    (hcoll : ∀ {R : List Value → Shared → Prop} {E : Value → Shared → Prop}, (∀ h' tk us, (∀ b o, s.heap.get? b = some o → h'.get? b = some o) → Vals vs us → R us { s with heap := h', toks := tk }) → wpAny (model X.prog X.w) X.A.in1 (collect u) R E s)
    (hq : ∀ p, H p = none → ∀ vs', Reps C H (ds.mergeSort leD) vs' [] → Q (.ref p) (upd H p (.lst vs'))) : wpAny (model X.prog X.w) X.A (call (.builtin "sorted") [u]) (EP X pins σ Q) X.xe s := by
  obtain ⟨h6, hlen⟩ := Bool.and_eq_true_iff.mp hok
  obtain ⟨h5, hsh⟩ := Bool.and_eq_true_iff.mp h6
  obtain ⟨h4, hso⟩ := Bool.and_eq_true_iff.mp h5
  obtain ⟨h3, hal⟩ := Bool.and_eq_true_iff.mp h4
  obtain ⟨h2, hi⟩ := Bool.and_eq_true_iff.mp h3
  obtain ⟨ys, hys⟩ := Option.isSome_iff_exists.mp h2
  have hlen := of_decide_eq_true hlen
  have lv : ds.length = vs.length := reps_length rs
  refine Calls.call_function_entry PyProof.Rows.kind_sorted PyProof.Rows.plain_sorted PyProof.Rows.entry_sorted (PyProof.Rows.args_sorted1 _) ?_
  unfold Builtin.«sorted»
  refine wpAny_bind (m := checkCount "sorted" 1 1 _) (wpAny_pure ?_)
  refine wpAny_bind (hcoll fun h' tk us hk rv => ?_)
  have lu : us.length = ds.length := by rw [lv, rv.length]
  have I1 : Inv X pins σ H { s with heap := h', toks := tk } := I.kept hk
  have er0 := each_reads I1 hC hF hys rs rv
  refine wpAny_bind (wpAny_newList ?_ (by rw [lu]; exact hlen))
  have hoL : (h'.push (seqObj "list" us.toArray 0)).get? h'.objs.size = some (seqObj "list" us.toArray 0) := Heap.get?_push_size _ rfl
  show wpAny _ _ _ _ _ { s with heap := h'.push (seqObj "list" us.toArray 0), toks := tk }
  have er1 : PySem.W.EachIs (fun (u : Value) (b : D × V) => ∃ as, Reads (h'.push (seqObj "list" us.toArray 0)) u (pyO b.1) as ∧ h'.objs.size ∉ as) us (ds.zip vs) :=
    er0.mono fun u b ⟨as, r, l⟩ => ⟨as, PyProof.Rows.Reads.keeps (fun _ _ e => Heap.get?_push_of_some _ e) r, fun z => Nat.lt_irrefl _ (l _ z)⟩
  have hz1 : (ds.zip vs).map (fun b => pyO b.1) = ds.map pyO := by
    have e := congrArg (List.map pyO) (zip_fst lv)
    rw [List.map_map] at e; exact e
  have hal' : PySem.W.AllAlike ((ds.zip vs).map (fun b => pyO b.1)) := by rw [hz1]; exact alikeB_ok hal
  have hso' : PySem.W.Sortable ((ds.zip vs).map (fun b => pyO b.1)) := by rw [hz1]; exact sortableB_ok hso
  have er2 : PySem.W.EachIs (fun (u : Value) (b : D × V) => ∃ as, Reads (PySem.W.sortingHeap (h'.push (seqObj "list" us.toArray 0)) h'.objs.size us) u (pyO b.1) as) us (ds.zip vs) :=
    PySem.W.each_keepBut (h' := PySem.W.sortingHeap (h'.push (seqObj "list" us.toArray 0)) h'.objs.size us) (fun _ _ hb q => PySem.W.sortingHeap_old hb q) (fun o q => by rw [hoL] at q; rw [← Option.some.inj q]) hal' er1
  have lz : (ds.zip vs).length = us.length := by simp; omega
  have hun : ∀ b ∈ ds.zip vs, X.A.in1.in1.units + (pyO b.1).depth < cLine := fun b hb => by
    have h1 := of_decide_eq_true (List.all_eq_true.mp hsh b.1 (List.of_mem_zip hb).1)
    have := hr.units
    show X.A.units + 1 + 1 + _ < _
    omega
  have er3 := er1.mono fun u b ⟨as, r, l⟩ => (⟨as, r⟩ : ∃ as, Reads (h'.push (seqObj "list" us.toArray 0)) u (pyO b.1) as)
  have eo := PySem.W.sortVals_data (R := fun (u : Value) (b : D × V) => RelV b.2 u) false (each_rel lv rv) er2 hal'
  refine wpAny_bind (wpAny_holding (wpAny_call_entry PyProof.Rows.slot_list_sort ⟨_, hoL, rfl⟩ PyProof.Rows.entry_list_sort
    (PySem.W.list_sort_vals (κ := PySem.W.dataKind (PySem.W.sortingHeap (h'.push (seqObj "list" us.toArray 0)) h'.objs.size us) ((ds.zip vs).map (fun b => pyO b.1))) (s := { s with heap := h'.push (seqObj "list" us.toArray 0), toks := tk }) hoL
      (PySem.W.SortsAt.data (s := { s with heap := PySem.W.sortingHeap (h'.push (seqObj "list" us.toArray 0)) h'.objs.size us, toks := tk }) (PySem.W.each_map (R := fun v d => ∃ as, Reads (PySem.W.sortingHeap (h'.push (seqObj "list" us.toArray 0)) h'.objs.size us) v d as) (fun b : D × V => pyO b.1) er2) hal' hso' (PySem.W.bound_map hun)) (by rw [lu]; exact hlen) ⟨.none, rfl, ?_⟩)
    (PyProof.Rows.args_list_sort _)))
  have hout := each_vals eo
  have hperm := List.mergeSort_perm (ds.zip vs) (PySem.W.dataLe false fun b : D × V => pyO b.1)
  have hreps : Reps C H (((ds.zip vs).mergeSort (PySem.W.dataLe false fun b : D × V => pyO b.1)).map (·.1)) (((ds.zip vs).mergeSort (PySem.W.dataLe false fun b : D × V => pyO b.1)).map (·.2)) [] :=
    reps_of_pairs fun b hb => pairs_of_reps rs b (hperm.mem_iff.mp hb)
  have hms : ((ds.zip vs).mergeSort (PySem.W.dataLe false fun b : D × V => pyO b.1)).map (·.1) = ds.mergeSort leD := by
    have hm := List.map_mergeSort (r := PySem.W.dataLe false fun b : D × V => pyO b.1) (s := leD) (f := fun b : D × V => b.1) (l := ds.zip vs) (fun a _ b _ => rfl)
    rw [hm, zip_fst lv]
  rw [hms] at hreps
  obtain ⟨e', he'⟩ := PyProof.Rows.sortedHeap_at (vs := us) (out := (PySem.W.sortVals (PySem.W.dataKind (PySem.W.sortingHeap (h'.push (seqObj "list" us.toArray 0)) h'.objs.size us) ((ds.zip vs).map (fun b => pyO b.1))) false us us).toArray) hoL
  have hl2 : (((ds.zip vs).mergeSort (PySem.W.dataLe false fun b : D × V => pyO b.1)).map (·.2)).length ≤ sizeLine := by
    rw [List.length_map, hperm.length_eq, lz, lu]; exact hlen
  refine wpAny_pure ⟨_, rfl, .ref h'.objs.size, upd H h'.objs.size (.lst (((ds.zip vs).mergeSort (PySem.W.dataLe false fun b : D × V => pyO b.1)).map (·.2))), I1.laid (t' := tk) (fun b u e => ?_) (Nat.le_refl _)
    (show ObjOk X.prog X.w _ _ _ (.lst _) from ⟨hl2, _, e', hout, he'⟩), rfl, hq _ (I1.hok.fresh (Nat.le_refl _)) _ hreps⟩
  have hb : b < h'.objs.size := Heap.lt_size e
  rw [PyProof.Rows.sortedHeap_old (Nat.ne_of_lt hb) (by rw [size_push']; exact Nat.lt_succ_of_lt hb)]
  exact Heap.get?_push_of_some _ e
end
end VS

set_option maxRecDepth 100000
namespace VS
open PySem L2 SeqAt PySem.Spec PyProof.Rows
section
variable {X : Cx} {C : Ctx} {H H' : Hp} {pins : List (Addr × Obj)} {σ : L2.St} {s : Shared}
def keyD : Key → D
  | .inl i => .int i
  | .inr s => .str s
theorem reps_keys {C : Ctx} {H : Hp} : ∀ ks : List Key, Reps C H (ks.map keyD) (ks.map kV) []
  | [] => ⟨rfl, rfl⟩
  | .inl i :: ks => ⟨.int i, ks.map kV, [], [], rfl, ⟨rfl, rfl⟩, reps_keys ks, rfl⟩
  | .inr i :: ks => ⟨.str i, ks.map kV, [], [], rfl, ⟨rfl, rfl⟩, reps_keys ks, rfl⟩
theorem imms_keys : ∀ ks : List Key, imms (ks.map keyD) = true
  | [] => rfl
  | .inl i :: ks => by simp [keyD, imms_keys ks]
  | .inr i :: ks => by simp [keyD, imms_keys ks]
/-- what a thing is collected to -/
def collD : D → Option (List D)
  | .lst _ ds => some ds
  | .tup ds => some ds
  | .dct _ ks _ => some (ks.map keyD)
  | _ => none
def pSortedG : List D → Option D
  | [d] => (collD d).bind fun ds => if sortOk ds then some (.lst .m (ds.mergeSort leD)) else none
  | _ => none
theorem sortOk_imms {ds : List D} (h : sortOk ds = true) : imms ds = true := by
  unfold sortOk at h
  simp only [Bool.and_eq_true] at h
  exact h.1.1.1.1.2
theorem imms_perm {ds es : List D} (h : ds.Perm es) (hi : imms ds = true) : imms es = true := by
  rw [imms_all, List.all_eq_true] at hi ⊢
  exact fun d hd => hi d (h.mem_iff.mpr hd)
theorem Comes.lst' {C : Ctx} {H : Hp} {es : List D} {Q : VK} (k : Comes C H (.lst .m es) Q) {vs : List V} (rs : Reps C H es vs []) {p : Addr} (hp : H p = none) : Q (.ref p) (upd H p (.lst vs)) :=
  k (.ref p) _ [p] (Le.new hp) ⟨p, vs, [p], [], rfl, ⟨upd_same, rfl⟩, rs.le (Le.new hp), .inl rfl, rfl⟩ (by simp) (by simpa using hp)
theorem od_sortedG {k : Nat} (hr : Room k X.A) (hcalm : X.calm = true) : ODL X (.builtin "sorted") pSortedG := by
  intro pins s σ H xs us Q I rv ⟨C, ds0, fx, d, hC, hF, rs, e, kk⟩
  unfold pSortedG at e
  split at e
  case h_2 => cases e
  rename_i d0
  obtain ⟨v, rfl, r⟩ := reps1 rs
  obtain ⟨u, rfl, ru⟩ := vals1 rv
  obtain ⟨ds, hco, e⟩ := Option.bind_eq_some_iff.mp e
  split at e
  case isFalse => cases e
  rename_i hok
  cases e
  have hi := sortOk_imms hok
  have fin : ∀ p, H p = none → ∀ vs', Reps C H (ds.mergeSort leD) vs' [] → Q (.ref p) (upd H p (.lst vs')) := fun p hp vs' rs' => kk.lst' rs' hp
  cases d0 with
  | lst g es =>
    cases hco
    obtain ⟨a, vs, f, rfl, q, rz⟩ := rep_list hC hF r
    have z := rz.imm hi
    subst z
    cases (show u = Value.ref a from ru)
    obtain ⟨its, rv2, ⟨o, n, ho, hc, hdi, hd⟩, hz⟩ := I.list q
    refine sorted_by I hr hC hF hok rz (fun hR => ?_) fin
    exact wpAny_collect_seq a (T := "list") (.inl rfl) ho hc hd (fun h' hk => hR h' s.toks its hk rv2) (by rw [List.size_toArray, ← rv2.length]; exact hz)
  | tup es =>
    cases hco
    obtain ⟨a, vs, rfl, q, rz⟩ := rep_tup hC r
    have z := rz.imm hi
    subst z
    cases (show u = Value.ref a from ru)
    obtain ⟨its, rv2, ⟨o, ho, hc, n, hd⟩, hz⟩ := I.tuple q
    refine sorted_by I hr hC hF hok rz (fun hR => ?_) fin
    exact wpAny_collect_seq a (T := "tuple") (.inr rfl) ho hc hd (fun h' hk => hR h' s.toks its hk rv2) (by rw [List.size_toArray, ← rv2.length]; exact hz)
  | dct g ks es =>
    cases hco
    obtain ⟨a, kvs, f1, f2, rfl, hd, hks, _, _⟩ := rep_dct hF r
    cases (show u = Value.ref a from ru)
    obtain ⟨z, lo, vs, rel, dd⟩ := dk_rd I.hok hd
    obtain ⟨ep, hat⟩ := dd.dictAt
    have h16 : vs.length ≤ sizeLine := by rw [← rel.length]; exact z
    have hkv : kvs.map (·.1) = vs.map (·.1) := rel.keys
    have hmap : vs.map (fun p => kV p.1) = ks.map kV := by
      rw [← hks, hkv, List.map_map]; rfl
    refine sorted_by I hr hC hF hok (reps_keys ks) (fun hR => ?_) fin
    refine PySem.W.kdu_collect (PySem.W.kdl_dict (knd := mixKind X.prog X.w) (kvs := vs) (ep := ep) lo) (I.ok.hd hcalm) hat h16 fun h' tk acc hk hacc => hR h' tk _ hk ?_
    rw [← hmap]
    exact keys_at (by rw [Array.length_toList]; exact hacc.1) fun j v e => hacc.2 j v (by rw [← Array.getElem?_toList]; exact e)
  | _ => cases hco

/-! ### < of data -/
def notNone : PyData → Bool
  | .none => false
  | _ => true
def pCmpD (f : PyData → PyData → Bool) : D → D → Option D := fun x y => match x.py, y.py with
  | some a, some b => if PySem.W.alike a b ∧ decide (a.depth ≤ 20) = true ∧ notNone a = true then some (.bl (f a b)) else none
  | _, _ => none
theorem od_cmpD {op : CmpOp} {f : PyData → PyData → Bool} {k : Nat} (hr : Room k X.A)
    (h : ∀ {A : Around} {E : Value → Shared → Prop} {s : Shared} {a b : Value} {da db : PyData} {as bs : List Addr} {Q : Value → Shared → Prop}, Reads s.heap a da as → Reads s.heap b db bs → PySem.W.alike da db = true → da ≠ .none → A.units + min da.depth db.depth < cLine → Q (.bool (f da db)) s → wpAny (model X.prog X.w) A (compareOp op a b) Q E s) :
    OD2 X (compareOp op) (pCmpD f) := by
  intro pins s σ H x y v u Q I rx ry ⟨C, dx, dy, fx, fy, d, hC, hF, r1, r2, e, kk⟩
  unfold pCmpD at e
  split at e
  case h_2 => cases e
  rename_i a b ha hb
  split at e
  case isFalse => cases e
  rename_i hc
  cases e
  obtain ⟨as, ra, _⟩ := reads_rep I hC hF ha r1 rx
  obtain ⟨bs, rb, _⟩ := reads_rep I hC hF hb r2 ry
  refine h ra rb hc.1 (fun z => by subst z; exact absurd hc.2.2 (by simp [notNone])) (by
    have h1 := of_decide_eq_true hc.2.1
    have := hr.units
    have : min a.depth b.depth ≤ a.depth := Nat.min_le_left _ _
    omega) ⟨.bl _, H, I, rfl, kk.here ⟨rfl, rfl⟩⟩
def pLtG : D → D → Option D := orP2 pLtI (pCmpD fun a b => PySem.W.dataLt a b)
def pGtG : D → D → Option D := orP2 pGtI (pCmpD fun a b => PySem.W.dataLt b a)
def pLeG : D → D → Option D := orP2 pLeI (pCmpD fun a b => !PySem.W.dataLt b a)
def pGeG : D → D → Option D := orP2 pGeI (pCmpD fun a b => !PySem.W.dataLt a b)
theorem od_ltG {k : Nat} (hr : Room k X.A) : OD2 X (compareOp .Lt) pLtG := od_ltI.or (od_cmpD hr fun a b c d e f => PySem.W.lt_data a b c d e f)
theorem od_gtG {k : Nat} (hr : Room k X.A) : OD2 X (compareOp .Gt) pGtG := od_gtI.or (od_cmpD hr fun a b c d e f => PySem.W.gt_data a b c d e f)
theorem od_leG {k : Nat} (hr : Room k X.A) : OD2 X (compareOp .LtE) pLeG := od_leI.or (od_cmpD hr fun a b c d e f => PySem.W.le_data a b c d e f)
theorem od_geG {k : Nat} (hr : Room k X.A) : OD2 X (compareOp .GtE) pGeG := od_geI.or (od_cmpD hr fun a b c d e f => PySem.W.ge_data a b c d e f)

/-! ### list(d), dict(d) -/
def pListG : List D → Option D
  | [.dct _ ks _] => some (.lst .m (ks.map keyD))
  | ds => pList ds
theorem od_listG (hcalm : X.calm = true) : ODL X (.type "list") pListG := by
  intro pins s σ H xs us Q I rv ⟨C, ds0, fx, d, hC, hF, rs, e, kk⟩
  unfold pListG at e
  split at e
  · rename_i g ks ds
    cases e
    obtain ⟨v, rfl, r⟩ := reps1 rs
    obtain ⟨a, kvs, f1, f2, rfl, hd, hks, _, _⟩ := rep_dct hF r
    refine call_listD hcalm pins s σ H _ us Q I rv ⟨a, kvs, rfl, hd, fun p hp => ?_⟩
    have : (kvs.map fun kv => kV kv.1) = ks.map kV := by rw [← hks, List.map_map]; rfl
    rw [this]
    exact kk.lst' (reps_keys ks) hp
  · exact od_list pins s σ H xs us Q I rv ⟨C, ds0, fx, d, hC, hF, rs, e, kk⟩
def pDictG : List D → Option D
  | [.dct _ ks ds] => if imms ds then some (.dct .m ks ds) else none
  | ds => pDictP ds
theorem od_dictG (hcalm : X.calm = true) : ODL X (.type "dict") pDictG := by
  intro pins s σ H xs us Q I rv ⟨C, ds0, fx, d, hC, hF, rs, e, kk⟩
  unfold pDictG at e
  split at e
  · rename_i g ks ds
    split at e
    case isFalse => cases e
    rename_i hi
    cases e
    obtain ⟨v, rfl, r⟩ := reps1 rs
    obtain ⟨a, kvs, f1, f2, rfl, n, hks, rz, _, _⟩ := r
    have z := rz.imm hi
    subst z
    have hd : Rd H a (.dK kvs) := (n.rd hF).rd fun xs => by intro z; cases z
    refine call_dictD pins s σ H _ us Q I rv ⟨a, kvs, rfl, hd, fun p hp => ?_⟩
    exact kk (.ref p) _ [p] (Le.new hp) ⟨p, kvs, [p], [], rfl, ⟨upd_same, rfl⟩, hks, rz.le (Le.new hp), .inl rfl, rfl⟩ (by simp) (by simpa using hp)
  · exact od_dictP hcalm pins s σ H xs us Q I rv ⟨C, ds0, fx, d, hC, hF, rs, e, kk⟩

/-! ### min, max of a list of data -/
mutual
def noLst : D → Bool
  | .tup ds => noLsts ds
  | .non => true
  | .bl _ => true
  | .int _ => true
  | .str _ => true
  | _ => false
def noLsts : List D → Bool
  | [] => true
  | d :: ds => noLst d && noLsts ds
end
mutual
theorem py_inj : ∀ {d e : D} {y : PyData}, noLst d = true → noLst e = true → d.py = some y → e.py = some y → d = e
  | .non, e, y, _, he, h1, h2 => by
    cases h1
    cases e <;> simp [D.py, noLst] at * 
  | .bl b, e, y, _, he, h1, h2 => by
    cases h1
    cases e <;> simp [D.py, noLst] at *
    all_goals first | exact h2.symm | skip
  | .int b, e, y, _, he, h1, h2 => by
    cases h1
    cases e <;> simp [D.py, noLst] at *
    all_goals first | exact h2.symm | skip
  | .str b, e, y, _, he, h1, h2 => by
    cases h1
    cases e <;> simp [D.py, noLst] at *
    all_goals first | exact h2.symm | skip
  | .tup ds, e, y, hd, he, h1, h2 => by
    obtain ⟨ys, hy, rfl⟩ := Option.map_eq_some_iff.mp h1
    cases e with
    | tup es =>
      obtain ⟨zs, hz, e⟩ := Option.map_eq_some_iff.mp h2
      cases e
      rw [pys_inj (ds := ds) (es := es) hd he hy hz]
    | lst g es => cases he
    | _ => simp [D.py] at h2
  | .ty _, _, _, h, _, _, _ => by cases h
  | .lst _ _, _, _, h, _, _, _ => by cases h
  | .dct _ _ _, _, _, h, _, _, _ => by cases h
  | .obj _ _ _ _, _, _, h, _, _, _ => by cases h
theorem pys_inj : ∀ {ds es : List D} {ys : List PyData}, noLsts ds = true → noLsts es = true → pys ds = some ys → pys es = some ys → ds = es
  | [], es, ys, _, _, h1, h2 => by
    cases h1
    cases es with
    | nil => rfl
    | cons e es =>
      obtain ⟨y, hy, h2⟩ := Option.bind_eq_some_iff.mp h2
      obtain ⟨ys', hys, e⟩ := Option.map_eq_some_iff.mp h2
      cases e
  | d :: ds, es, ys, hd, he, h1, h2 => by
    obtain ⟨y, hy, h1⟩ := Option.bind_eq_some_iff.mp h1
    obtain ⟨ys', hys, rfl⟩ := Option.map_eq_some_iff.mp h1
    cases es with
    | nil => cases h2
    | cons e es =>
      obtain ⟨y2, hy2, h2⟩ := Option.bind_eq_some_iff.mp h2
      obtain ⟨ys2, hys2, e2⟩ := Option.map_eq_some_iff.mp h2
      cases e2
      have hd := Bool.and_eq_true_iff.mp hd
      have he := Bool.and_eq_true_iff.mp he
      rw [py_inj hd.1 he.1 hy hy2, pys_inj hd.2 he.2 hys hys2]
end
def bestD (f : PyData → PyData → Bool) : List D → D → D
  | [], a => a
  | y :: ds, a => bestD f ds (if f (pyO y) (pyO a) then y else a)
def minOk (ds : List D) : Bool := (pys ds).isSome && noLsts ds && alikeB ds && shallowB ds && ds.all fun d => notNone (pyO d)
def pMinL : List D → Option D
  | [.lst _ (d :: ds)] => if minOk (d :: ds) then some (bestD (fun y a => PySem.W.dataLt y a) ds d) else none
  | _ => none
def pMaxL : List D → Option D
  | [.lst _ (d :: ds)] => if minOk (d :: ds) then some (bestD (fun y a => PySem.W.dataLt a y) ds d) else none
  | _ => none
theorem best_mem (f : PyData → PyData → Bool) : ∀ (ds : List D) (a : D), bestD f ds a = a ∨ bestD f ds a ∈ ds
  | [], a => .inl rfl
  | y :: ds, a => by
    unfold bestD
    split
    · rcases best_mem f ds y with z | z
      · exact .inr (by rw [z]; simp)
      · exact .inr (by simp [z])
    · rcases best_mem f ds a with z | z
      · exact .inl z
      · exact .inr (by simp [z])
theorem best_py (f : PyData → PyData → Bool) : ∀ (ds : List D) (a : D), pyO (bestD f ds a) = (ds.map pyO).foldl (fun a y => if f y a then y else a) (pyO a)
  | [], a => rfl
  | y :: ds, a => by
    unfold bestD
    rw [best_py f ds, List.map_cons, List.foldl_cons]
    split <;> rfl
theorem noLst_imm : ∀ {d : D}, noLst d = true → d.imm = true := by
  have key : ∀ n : Nat, ∀ d : D, sizeOf d ≤ n → noLst d = true → d.imm = true := by
    intro n
    induction n with
    | zero => intro d h; cases d <;> simp at h
    | succ n ih =>
      intro d h hd
      cases d with
      | tup ds =>
        have h2 : noLsts ds = true := hd
        show imms ds = true
        have h3 : ∀ d ∈ ds, sizeOf d ≤ n := fun d hd => by
          have := List.sizeOf_lt_of_mem hd
          simp at h; omega
        clear h hd
        induction ds with
        | nil => rfl
        | cons d ds ih2 =>
          have := Bool.and_eq_true_iff.mp h2
          simp only [imms, ih d (h3 d (by simp)) this.1, ih2 this.2 fun d hd => h3 d (by simp [hd]), Bool.and_self]
      | lst _ _ => cases hd
      | dct _ _ _ => cases hd
      | obj _ _ _ _ => cases hd
      | _ => rfl
  exact fun {d} h => key _ d (Nat.le_refl _) h
theorem noLsts_mem : ∀ {ds : List D} {d : D}, noLsts ds = true → d ∈ ds → noLst d = true
  | d0 :: ds, d, h, hd => by
    have := Bool.and_eq_true_iff.mp h
    rcases List.mem_cons.mp hd with z | z
    · subst z; exact this.1
    · exact noLsts_mem this.2 z
theorem noLsts_imms {ds : List D} (h : noLsts ds = true) : imms ds = true := by
  rw [imms_all, List.all_eq_true]
  exact fun d hd => noLst_imm (noLsts_mem h hd)
end
end VS

set_option maxRecDepth 100000
namespace VS
open PySem L2 SeqAt PySem.Spec PyProof.Rows
section
variable {X : Cx} {C : Ctx} {H H' : Hp} {pins : List (Addr × Obj)} {σ : L2.St} {s : Shared}
def shallowA (ds : List D) : Bool := match pys ds with
  | some ys => decide (PyData.depthAll ys ≤ 20)
  | none => false
theorem best_of (I : Inv X pins σ H s) (hC : C.At X) (hF : Fr C H) {f : PyData → PyData → Bool} {d0 : D} {ds : List D} {vs : List V} {fp : List Addr} {its : List Value} {h' : Heap} {i : Nat} {v : Value} {bs : List Addr} (hok : minOk (d0 :: ds) = true) (rs : Reps C H (d0 :: ds) vs fp) (rv : Vals vs its)
    (hk : ∀ b o, s.heap.get? b = some o → h'.get? b = some o) (hi : its[i]? = some v) (hr : Reads h' v ((ds.map pyO).foldl (fun a y => if f y a then y else a) (pyO d0)) bs) : ∃ w, RelV w v ∧ Rep C H (bestD f ds d0) w [] := by
  unfold minOk at hok
  simp only [Bool.and_eq_true] at hok
  obtain ⟨⟨⟨⟨h1, h2⟩, h3⟩, h4⟩, h5⟩ := hok
  obtain ⟨ys, hys⟩ := Option.isSome_iff_exists.mp h1
  have him := noLsts_imms h2
  have z := rs.imm him
  subst z
  obtain ⟨w, hw, rw'⟩ := vals_get' rv hi
  obtain ⟨d, hd, rd⟩ := reps_imm_get rs him hw
  have hdm := List.mem_of_getElem? hd
  have hbm : bestD f ds d0 ∈ d0 :: ds := by
    rcases best_mem f ds d0 with z | z
    · rw [z]; simp
    · simp [z]
  obtain ⟨as, ra, _⟩ := reads_rep I hC hF (pys_mem hys hdm) rd rw'
  rw [← best_py] at hr
  have hal : PySem.W.alike (pyO d) (pyO (bestD f ds d0)) = true := List.all_eq_true.mp (List.all_eq_true.mp h3 d hdm) _ hbm
  have e := PySem.W.alike_unique _ _ v _ _ hal (PyProof.Rows.Reads.keeps hk ra) hr
  have hdp := pys_mem hys hdm
  rw [e] at hdp
  have : d = bestD f ds d0 := py_inj (noLsts_mem h2 hdm) (noLsts_mem h2 hbm) hdp (pys_mem hys hbm)
  subst this
  exact ⟨w, rw', rd⟩
theorem minOk_alike {ds : List D} {ys : List PyData} (h : minOk ds = true) (hy : pys ds = some ys) : PySem.W.AlikeAll ys := by
  unfold minOk at h
  simp only [Bool.and_eq_true] at h
  have e := pys_map hy
  subst e
  refine ⟨fun x hx y hy => ?_, fun x hx e => ?_⟩
  · exact alikeB_ok h.1.1.2 x hx y hy
  · obtain ⟨d, hd, rfl⟩ := List.mem_map.mp hx
    have := List.all_eq_true.mp h.2 d hd
    rw [e] at this
    exact absurd this (by simp [notNone])
def pMinG : List D → Option D := fun ds => match ds with
  | [.lst g (d :: es)] => if shallowA (d :: es) then pMinL [.lst g (d :: es)] else none
  | ds => pMin2 ds
def pMaxG : List D → Option D := fun ds => match ds with
  | [.lst g (d :: es)] => if shallowA (d :: es) then pMaxL [.lst g (d :: es)] else none
  | ds => pMax2 ds
theorem od_minG {k : Nat} (hr : Room k X.A) (hcalm : X.calm = true) : ODL X (.builtin "min") pMinG := by
  intro pins s σ H xs us Q I rv ⟨C, ds0, fx, dr, hC, hF, rs, e, kk⟩
  unfold pMinG at e
  split at e
  · rename_i g d es
    split at e
    case isFalse => cases e
    rename_i hsh
    unfold pMinL at e
    split at e
    case h_2 => rename_i hh; exact absurd rfl (hh g d es)
    rename_i g' d' es' he
    cases he
    split at e
    case isFalse => cases e
    rename_i hok
    cases e
    obtain ⟨v, rfl, r⟩ := reps1 rs
    obtain ⟨a, vs, f, rfl, q, rz⟩ := rep_list hC hF r
    obtain ⟨u, rfl, ru⟩ := vals1 rv
    cases (show u = Value.ref a from ru)
    obtain ⟨its, rv2, hl, hz⟩ := I.list q
    unfold shallowA at hsh
    split at hsh
    case h_2 => cases hsh
    rename_i ys hys
    have e1 := pys_map hys
    obtain ⟨as, ra, _⟩ := readsAll_rep I hC hF hys rz rv2
    subst e1
    refine PySem.W.min_list_data (x := pyO d) (xs := es.map pyO) (as := as) (I.ok.hd hcalm) hl.isList (by simpa using ra) (minOk_alike hok hys) (by
      have h1 := of_decide_eq_true hsh
      have := hr.units
      simp only [List.map_cons] at h1
      omega) fun i v h' tk bs hv hrd hk => ?_
    obtain ⟨w, h1, h2⟩ := best_of (f := fun y a => PySem.W.dataLt y a) I hC hF hok rz rv2 hk (by simpa using hv) hrd
    exact ⟨w, H, I.kept hk, h1, kk.here h2⟩
  · exact od_min2 hcalm pins s σ H xs us Q I rv ⟨C, ds0, fx, dr, hC, hF, rs, e, kk⟩
theorem od_maxG {k : Nat} (hr : Room k X.A) (hcalm : X.calm = true) : ODL X (.builtin "max") pMaxG := by
  intro pins s σ H xs us Q I rv ⟨C, ds0, fx, dr, hC, hF, rs, e, kk⟩
  unfold pMaxG at e
  split at e
  · rename_i g d es
    split at e
    case isFalse => cases e
    rename_i hsh
    unfold pMaxL at e
    split at e
    case h_2 => rename_i hh; exact absurd rfl (hh g d es)
    rename_i g' d' es' he
    cases he
    split at e
    case isFalse => cases e
    rename_i hok
    cases e
    obtain ⟨v, rfl, r⟩ := reps1 rs
    obtain ⟨a, vs, f, rfl, q, rz⟩ := rep_list hC hF r
    obtain ⟨u, rfl, ru⟩ := vals1 rv
    cases (show u = Value.ref a from ru)
    obtain ⟨its, rv2, hl, hz⟩ := I.list q
    unfold shallowA at hsh
    split at hsh
    case h_2 => cases hsh
    rename_i ys hys
    have e1 := pys_map hys
    obtain ⟨as, ra, _⟩ := readsAll_rep I hC hF hys rz rv2
    subst e1
    refine PySem.W.max_list_data (x := pyO d) (xs := es.map pyO) (as := as) (I.ok.hd hcalm) hl.isList (by simpa using ra) (minOk_alike hok hys) (by
      have h1 := of_decide_eq_true hsh
      have := hr.units
      simp only [List.map_cons] at h1
      omega) fun i v h' tk bs hv hrd hk => ?_
    obtain ⟨w, h1, h2⟩ := best_of (f := fun y a => PySem.W.dataLt a y) I hC hF hok rz rv2 hk (by simpa using hv) hrd
    exact ⟨w, H, I.kept hk, h1, kk.here h2⟩
  · exact od_max2 hcalm pins s σ H xs us Q I rv ⟨C, ds0, fx, dr, hC, hF, rs, e, kk⟩
/-! ### divmod -/
def pDivmod : List D → Option D
  | [.int i, .int j] => if 0 < j ∧ j < 2 ^ 64 then some (.tup [.int (i / j), .int (i % j)]) else none
  | _ => none
theorem od_divmod : ODL X (.builtin "divmod") pDivmod := by
  refine ODL.of call_divmodW fun xs H Q ⟨C, ds, fx, d, hC, hF, rs, e, k⟩ => ?_
  unfold pDivmod at e
  split at e
  case h_2 => cases e
  rename_i i j
  split at e
  case isFalse => cases e
  rename_i hj
  cases e
  obtain ⟨v, w, f1, f2, rfl, r, r', _⟩ := reps2 rs
  obtain ⟨rfl, _⟩ := r
  obtain ⟨rfl, _⟩ := r'
  refine ⟨i, j, rfl, ?_, fun p hp => ?_⟩
  · exact ⟨hj.1, PyProof.noPylong_of_log2 (wide_div (i := i) (b := 64) hj.1 (by omega) (by decide) (by decide)).2⟩
  · exact k (.ref p) _ [] (Le.new hp) ⟨p, [.int (i / j), .int (i % j)], rfl, .inl (.inl upd_same), .int (i / j), [.int (i % j)], [], [], rfl, ⟨rfl, rfl⟩, ⟨.int (i % j), [], [], [], rfl, ⟨rfl, rfl⟩, ⟨rfl, rfl⟩, rfl⟩, rfl⟩ .nil fun _ z => nomatch z
end
end VS

set_option maxRecDepth 100000
namespace VS
open PySem L2 SeqAt PySem.Spec PyProof.Rows
section
variable {X : Cx} {W : WX} {Ma Mb Mc V1 V2 V3 Rs R1 R2 R3 : List Nat} {e f a b c tg o : Expr} {es : List Expr} {ca cb cc : CE} {cs : CA} {ct : CT} {pos p apos cpos : Pos} {cl : CL} {i : Nat} {st : Stmt}
variable {C : Ctx} {H H' : Hp} {pins : List (Addr × Obj)} {σ : L2.St} {s : Shared}
/-- a statement that is never reached -/
theorem ss_never : SS X W [] [] st (fun _ => .err) := ⟨tNever, ps_never, fun _ _ _ _ _ _ _ _ _ po => po.elim⟩
/-- a constant of the module -/
theorem so_globS {x : Str} {z : Str} (h : ∃ t, X.mg x = some (.str z t)) (hg : Gl X x) (hd : (x == ("__debug__" : Str)) = false) : SO X W [] (.Name x pos) (cK (.str z)) :=
  let ⟨t, hm⟩ := h
  so_k (v := .str z) (pe_glob (v := .str z) hg hm (show ∃ t', Value.str z t = Value.str z t' from ⟨t, rfl⟩) hd) (fun _ _ _ h => h) fun _ _ => ⟨rfl, rfl⟩
theorem so_globI {x : Str} {z : Int} (h : ∃ t, X.mg x = some (.int z t)) (hg : Gl X x) (hd : (x == ("__debug__" : Str)) = false) : SO X W [] (.Name x pos) (cK (.int z)) :=
  let ⟨t, hm⟩ := h
  so_k (v := .int z) (pe_glob (v := .int z) hg hm (show ∃ t', Value.int z t = Value.int z t' from ⟨t, rfl⟩) hd) (fun _ _ _ h => h) fun _ _ => ⟨rfl, rfl⟩
/-! ### a text sign by sign -/
def signsD (z : Str) : List D := z.cps.toList.map fun c => .str ⟨#[c]⟩
def iStrD (c : CE) : CA := fun env => (c env).bind fun d env => match d with
  | .str z => .ok (signsD z) env
  | _ => .err
theorem si_str (h : SB X W Ma Rs e ca) : SI X W Ma Rs tg e (iStrD ca) := by
  obtain ⟨t, p, q⟩ := h.go
  refine ⟨iStr t, pi_str p, fun C fs env σ H tf Q hC G po => q C fs env σ H tf _ hC G ?_⟩
  unfold iStrD at po
  cases e1 : ca env with
  | err => rw [e1] at po; exact po
  | ex x env' => rw [e1] at po; exact po
  | ok d env1 =>
    rw [e1] at po
    intro v fs1 H1 fp own G1 s1 r1 i1
    cases d with
    | str z =>
      obtain ⟨rfl, rfl⟩ := r1
      have po' : PostI W C Ma Rs tf fs env σ H Q (.ok (signsD z) env1) := po
      refine ⟨z, rfl, po' _ fs1 H1 [] own G1 s1 ⟨?_⟩ fun _ z => nomatch z⟩
      have hl : (signsD z).length = z.cps.size := by simp [signsD]
      rw [hl]
      refine walk_str.mono (fun _ _ => trivial) fun i H x H' hi _ ⟨e1, cc, e2, e3⟩ => ?_
      subst e1 e3
      exact ⟨.refl _, .str ⟨#[cc]⟩, by simp [signsD, e2], rfl, rfl⟩
    | _ => exact po.elim
/-! ### in -/
def pInS : D → D → Option D
  | .str a, .str b => (match a.cps.toList with
    | [c] => some (.bl (decide (c ∈ b.cps.toList)))
    | _ => none)
  | _, _ => none
theorem od_inS : OD2 X (compareOp .In) pInS := by
  refine OD2.of op_in_sign fun x y H Q ⟨C, dx, dy, fx, fy, d, hC, hF, r1, r2, e, k⟩ => ?_
  unfold pInS at e
  split at e
  case h_2 => cases e
  rename_i a b
  split at e
  case h_2 => cases e
  rename_i cc hcc
  cases e
  obtain ⟨rfl, _⟩ := r1
  obtain ⟨rfl, _⟩ := r2
  refine ⟨cc, b, ?_, rfl, k.here ⟨rfl, rfl⟩⟩
  have : a.cps = #[cc] := by
    apply Array.toList_inj.mp; simpa using hcc
  cases a
  simp at this
  subst this; rfl
def pInW : D → D → Option D := orP2 pInS pIn
theorem od_inW {k : Nat} (hr : Room k X.A) : OD2 X (compareOp .In) pInW := od_inS.or (od_in hr)
end
end VS

set_option maxRecDepth 100000
namespace VS
open PySem L2 SeqAt PySem.Spec PyProof.Rows
def sortOkM (ds : List D) : Bool := (pys ds).isSome && alikeB ds && sortableB ds && shallowB ds && decide (ds.length ≤ sizeLine)
section
variable {X : Cx} {C : Ctx} {H H' : Hp} {pins : List (Addr × Obj)} {σ : L2.St} {s : Shared}
theorem reps_zip : ∀ {ds : List D} {vs : List V} {fp : List Addr}, Reps C H ds vs fp → Reps C H ((ds.zip vs).map (·.1)) ((ds.zip vs).map (·.2)) fp
  | [], vs, fp, ⟨e, e2⟩ => by subst e e2; exact ⟨rfl, rfl⟩
  | d :: ds, vs, fp, ⟨v, vs', f1, f2, e, r, rs, e2⟩ => by subst e e2; exact ⟨_, _, f1, f2, rfl, r, reps_zip rs, rfl⟩
theorem reps_perm {bs cs : List (D × V)} (h : bs.Perm cs) : ∀ {fp : List Addr}, Reps C H (bs.map (·.1)) (bs.map (·.2)) fp → ∃ fp', fp'.Perm fp ∧ Reps C H (cs.map (·.1)) (cs.map (·.2)) fp' := by
  induction h with
  | nil => intro fp r; exact ⟨fp, .refl _, r⟩
  | cons b _ ih =>
    rintro fp ⟨v, vs', f1, f2, e, r, rs, e2⟩
    cases e; subst e2
    obtain ⟨f3, h1, h2⟩ := ih rs
    exact ⟨f1 ++ f3, h1.append_left f1, _, _, f1, f3, rfl, r, h2, rfl⟩
  | swap b c l =>
    rintro fp ⟨v, vs', f1, f2, e, r, ⟨v2, vs2, f3, f4, e3, r3, rs, e4⟩, e2⟩
    cases e; cases e3; subst e2 e4
    refine ⟨f3 ++ (f1 ++ f4), ?_, _, _, f3, f1 ++ f4, rfl, r3, ⟨_, _, f1, f4, rfl, r, rs, rfl⟩, rfl⟩
    rw [← List.append_assoc, ← List.append_assoc]
    exact List.perm_append_comm.append_right f4
  | trans _ _ h1 h2 =>
    intro fp r
    obtain ⟨f1, p1, r1⟩ := h1 r
    obtain ⟨f2, p2, r2⟩ := h2 r1
    exact ⟨f2, p2.trans p1, r2⟩
/-- sorted(x), what is in it goes along -/
theorem sorted_byP (I : Inv X pins σ H s) {k : Nat} (hr : Room k X.A) (hC : C.At X) (hF : Fr C H) {u : Value} {ds : List D} {vs : List V} {Q : VK} {fp : List Addr} (hok : sortOkM ds = true) (rs : Reps C H ds vs fp)
    (hcoll : ∀ {R : List Value → Shared → Prop} {E : Value → Shared → Prop}, (∀ h' tk us, (∀ b o, s.heap.get? b = some o → h'.get? b = some o) → Vals vs us → R us { s with heap := h', toks := tk }) → wpAny (model X.prog X.w) X.A.in1 (collect u) R E s)
    (hq : ∀ p, H p = none → ∀ vs' fp', Reps C H (ds.mergeSort leD) vs' fp' → fp'.Perm fp → Q (.ref p) (upd H p (.lst vs'))) : wpAny (model X.prog X.w) X.A (call (.builtin "sorted") [u]) (EP X pins σ Q) X.xe s := by
  obtain ⟨h6, hlen⟩ := Bool.and_eq_true_iff.mp hok
  obtain ⟨h5, hsh⟩ := Bool.and_eq_true_iff.mp h6
  obtain ⟨h4, hso⟩ := Bool.and_eq_true_iff.mp h5
  obtain ⟨h2, hal⟩ := Bool.and_eq_true_iff.mp h4
  obtain ⟨ys, hys⟩ := Option.isSome_iff_exists.mp h2
  have hlen := of_decide_eq_true hlen
  have lv : ds.length = vs.length := reps_length rs
  refine Calls.call_function_entry PyProof.Rows.kind_sorted PyProof.Rows.plain_sorted PyProof.Rows.entry_sorted (PyProof.Rows.args_sorted1 _) ?_
  unfold Builtin.«sorted»
  refine wpAny_bind (m := checkCount "sorted" 1 1 _) (wpAny_pure ?_)
  refine wpAny_bind (hcoll fun h' tk us hk rv => ?_)
  have lu : us.length = ds.length := by rw [lv, rv.length]
  have I1 : Inv X pins σ H { s with heap := h', toks := tk } := I.kept hk
  have er0 := each_reads I1 hC hF hys rs rv
  refine wpAny_bind (wpAny_newList ?_ (by rw [lu]; exact hlen))
  have hoL : (h'.push (seqObj "list" us.toArray 0)).get? h'.objs.size = some (seqObj "list" us.toArray 0) := Heap.get?_push_size _ rfl
  show wpAny _ _ _ _ _ { s with heap := h'.push (seqObj "list" us.toArray 0), toks := tk }
  have er1 : PySem.W.EachIs (fun (u : Value) (b : D × V) => ∃ as, Reads (h'.push (seqObj "list" us.toArray 0)) u (pyO b.1) as ∧ h'.objs.size ∉ as) us (ds.zip vs) :=
    er0.mono fun u b ⟨as, r, l⟩ => ⟨as, PyProof.Rows.Reads.keeps (fun _ _ e => Heap.get?_push_of_some _ e) r, fun z => Nat.lt_irrefl _ (l _ z)⟩
  have hz1 : (ds.zip vs).map (fun b => pyO b.1) = ds.map pyO := by
    have e := congrArg (List.map pyO) (zip_fst lv)
    rw [List.map_map] at e; exact e
  have hal' : PySem.W.AllAlike ((ds.zip vs).map (fun b => pyO b.1)) := by rw [hz1]; exact alikeB_ok hal
  have hso' : PySem.W.Sortable ((ds.zip vs).map (fun b => pyO b.1)) := by rw [hz1]; exact sortableB_ok hso
  have er2 : PySem.W.EachIs (fun (u : Value) (b : D × V) => ∃ as, Reads (PySem.W.sortingHeap (h'.push (seqObj "list" us.toArray 0)) h'.objs.size us) u (pyO b.1) as) us (ds.zip vs) :=
    PySem.W.each_keepBut (h' := PySem.W.sortingHeap (h'.push (seqObj "list" us.toArray 0)) h'.objs.size us) (fun _ _ hb q => PySem.W.sortingHeap_old hb q) (fun o q => by rw [hoL] at q; rw [← Option.some.inj q]) hal' er1
  have lz : (ds.zip vs).length = us.length := by simp; omega
  have hun : ∀ b ∈ ds.zip vs, X.A.in1.in1.units + (pyO b.1).depth < cLine := fun b hb => by
    have h1 := of_decide_eq_true (List.all_eq_true.mp hsh b.1 (List.of_mem_zip hb).1)
    have := hr.units
    show X.A.units + 1 + 1 + _ < _
    omega
  have er3 := er1.mono fun u b ⟨as, r, l⟩ => (⟨as, r⟩ : ∃ as, Reads (h'.push (seqObj "list" us.toArray 0)) u (pyO b.1) as)
  have eo := PySem.W.sortVals_data (R := fun (u : Value) (b : D × V) => RelV b.2 u) false (each_rel lv rv) er2 hal'
  refine wpAny_bind (wpAny_holding (wpAny_call_entry PyProof.Rows.slot_list_sort ⟨_, hoL, rfl⟩ PyProof.Rows.entry_list_sort
    (PySem.W.list_sort_vals (κ := PySem.W.dataKind (PySem.W.sortingHeap (h'.push (seqObj "list" us.toArray 0)) h'.objs.size us) ((ds.zip vs).map (fun b => pyO b.1))) (s := { s with heap := h'.push (seqObj "list" us.toArray 0), toks := tk }) hoL
      (PySem.W.SortsAt.data (s := { s with heap := PySem.W.sortingHeap (h'.push (seqObj "list" us.toArray 0)) h'.objs.size us, toks := tk }) (PySem.W.each_map (R := fun v d => ∃ as, Reads (PySem.W.sortingHeap (h'.push (seqObj "list" us.toArray 0)) h'.objs.size us) v d as) (fun b : D × V => pyO b.1) er2) hal' hso' (PySem.W.bound_map hun)) (by rw [lu]; exact hlen) ⟨.none, rfl, ?_⟩)
    (PyProof.Rows.args_list_sort _)))
  have hout := each_vals eo
  have hperm := List.mergeSort_perm (ds.zip vs) (PySem.W.dataLe false fun b : D × V => pyO b.1)
  obtain ⟨fp', hpf, hreps⟩ := reps_perm hperm.symm (reps_zip rs)
  have hms : ((ds.zip vs).mergeSort (PySem.W.dataLe false fun b : D × V => pyO b.1)).map (·.1) = ds.mergeSort leD := by
    have hm := List.map_mergeSort (r := PySem.W.dataLe false fun b : D × V => pyO b.1) (s := leD) (f := fun b : D × V => b.1) (l := ds.zip vs) (fun a _ b _ => rfl)
    rw [hm, zip_fst lv]
  rw [hms] at hreps
  obtain ⟨e', he'⟩ := PyProof.Rows.sortedHeap_at (vs := us) (out := (PySem.W.sortVals (PySem.W.dataKind (PySem.W.sortingHeap (h'.push (seqObj "list" us.toArray 0)) h'.objs.size us) ((ds.zip vs).map (fun b => pyO b.1))) false us us).toArray) hoL
  have hl2 : (((ds.zip vs).mergeSort (PySem.W.dataLe false fun b : D × V => pyO b.1)).map (·.2)).length ≤ sizeLine := by
    rw [List.length_map, hperm.length_eq, lz, lu]; exact hlen
  refine wpAny_pure ⟨_, rfl, .ref h'.objs.size, upd H h'.objs.size (.lst (((ds.zip vs).mergeSort (PySem.W.dataLe false fun b : D × V => pyO b.1)).map (·.2))), I1.laid (t' := tk) (fun b u e => ?_) (Nat.le_refl _)
    (show ObjOk X.prog X.w _ _ _ (.lst _) from ⟨hl2, _, e', hout, he'⟩), rfl, hq _ (I1.hok.fresh (Nat.le_refl _)) _ _ hreps hpf⟩
  have hb : b < h'.objs.size := Heap.lt_size e
  rw [PyProof.Rows.sortedHeap_old (Nat.ne_of_lt hb) (by rw [size_push']; exact Nat.lt_succ_of_lt hb)]
  exact Heap.get?_push_of_some _ e

end
/-! ### list(d.values()) -/
section
variable {X : Cx} {W : WX} {M Rs : List Nat} {e o : Expr} {c : CE} {pos p apos mpos : Pos} {td : TE}
def tListVals (td : TE) : TE := fun σ H Q => td σ H fun x H1 => ∃ (a : Addr) (kvs : List (Key × V)), x = V.ref a ∧ Rd H1 a (.dK kvs) ∧ ∀ q, H1 q = none → Q (.ref q) (upd H1 q (.lst (kvs.map (·.2))))
theorem vals_at : ∀ {kvs : List (Key × V)} {vs : List (Key × Value)} {acc : List Value}, KV kvs vs → acc.length = vs.length → (∀ (j : Nat) (v : Value), acc[j]? = some v → ∃ k, vs[j]? = some (k, v)) → Vals (kvs.map (·.2)) acc := by
  intro kvs vs acc rel
  unfold KV at rel
  induction rel generalizing acc with
  | nil =>
    intro h _
    cases acc with
    | nil => exact .nil
    | cons _ _ => simp at h
  | cons r t ih =>
    intro h hv
    cases acc with
    | nil => simp at h
    | cons u us =>
      obtain ⟨k, e⟩ := hv 0 u rfl
      simp at e
      refine .cons ?_ (ih (by simpa using h) fun j v q => by simpa using hv (j + 1) v (by simpa using q))
      have := r.2
      rw [e] at this; exact this
theorem pe_listVals (hc : X.calm = true) (hg : Gl X "list") (hm : X.mg "list" = none) (hd : PE X o td) (hbase : attributeBase o "values" X.env (eval o X.env) = eval o X.env := by rfl) (hline : (apos.endLine == mpos.line) = true := by rfl)
    (hse : starEach [Expr.Call (.Attribute o "values" apos) [] [] mpos] X.env = [(false, eval (Expr.Call (.Attribute o "values" apos) [] [] mpos) X.env)] := by rfl) :
    PE X (.Call (.Name "list" p) [.Call (.Attribute o "values" apos) [] [] mpos] [] pos) (tListVals td) := by
  refine ⟨fun pins s σ H Q I h => ?_⟩
  refine wpAny_Call_Name_kw (ld_blt I hg hm (u := .type "list") (by first | rfl | decide +kernel) ?_ (by first | decide +kernel | decide) (by first | decide +kernel | decide))
  rw [hse]
  refine PySem.callWith_type1 (wpAny_Call_method0_late hbase hline (thn (hd.run pins s σ H _ I h) fun v s1 ⟨x, H1, I1, r1, a, kvs, ex, ha, q⟩ => ?_))
  subst ex
  obtain rfl : v = Value.ref a := r1
  obtain ⟨z, hsys, vs, rel, dof⟩ := dk_rd I1.hok ha
  obtain ⟨ep, dat⟩ := dof.dictAt
  have dat' := dat
  obtain ⟨ob, es, ho, ex, hdat, hko, hpr, hnd⟩ := dat'
  refine ⟨"dict", "dict.values", F.plainAttrs_dict, F.slot_dict_values, F.type_dict_values, ⟨ob, ho, ex.1⟩, fun b e => ?_, Calls.callWith_builtin rfl (PySem.evalArgs_none ?_)⟩
  · cases e
    exact ⟨ob, ho, ex.2.1⟩
  refine call_meetsIn F.slot_dict_values ⟨ob, ho, ex.1⟩ F.entry_dict_values (F.args_dict_values_1 _) (meets_dict_values (mixKind X.prog X.w) a hsys) ⟨⟨vs, dof⟩, ?_⟩
  have k1 : ∀ b u, s1.heap.get? b = some u → (s1.heap.push { cls := .type "dict_values", data := .fields #[.ref a] }).get? b = some u := fun b u e => Heap.get?_push_of_some _ e
  have dat1 : (s1.heap.push { cls := .type "dict_values", data := .fields #[.ref a] }).DictAt (mixKind X.prog X.w) a vs ep := dat.keep k1
  have hlv : vs.length = kvs.length := (KV.length rel).symm
  have hlen : vs.length ≤ sizeLine := by rw [hlv]; exact z
  refine PySem.W.kdl_call (PySem.W.kdl_values (knd := mixKind X.prog X.w) (kvs := vs) (ep := ep)) (I.ok.hd hc) ⟨⟨_, Heap.get?_push_size _ rfl, rfl, rfl⟩, dat1⟩ hlen fun h' tk acc c' hk hD hacc => ?_
  have hv : Vals (kvs.map (·.2)) acc.toList := vals_at rel (by rw [Array.length_toList]; exact hacc.1) fun j v e => hacc.2 j v (by rw [← Array.getElem?_toList]; exact e)
  have hsz : (s1.heap.push { cls := .type "dict_values", data := .fields #[.ref a] }).objs.size = s1.heap.objs.size + 1 := Heap.size_push _ _
  have hle : s1.heap.objs.size ≤ (s1.heap.push { cls := .type "dict_values", data := .fields #[.ref a] }).objs.size := by rw [hsz]; exact Nat.le_succ _
  refine ⟨.ref _, upd H1 _ (.lst (kvs.map (·.2))), I1.laid (t' := tk) (fun b u e => hk b u (k1 b u e)) hle
    (show ObjOk X.prog X.w _ _ _ (.lst (kvs.map (·.2))) from ⟨by rw [List.length_map]; exact z, acc.toList, c', hv, by rw [Array.toArray_toList]; exact hD⟩), rfl, q _ (I1.hok.fresh hle)⟩
/-- the values of a dict of one's own, as a list: the dict is given up -/
def cVals (c : CE) : CE := fun env => (c env).bind fun d env => match d with
  | .dct .m _ ds => .ok (.lst .m ds) env
  | _ => .err
theorem so_valsM (hc : X.calm = true) (hg : Gl X "list") (hm : X.mg "list" = none) (h : SO X W M o c) (hbase : attributeBase o "values" X.env (eval o X.env) = eval o X.env := by rfl) (hline : (apos.endLine == mpos.line) = true := by rfl)
    (hse : starEach [Expr.Call (.Attribute o "values" apos) [] [] mpos] X.env = [(false, eval (Expr.Call (.Attribute o "values" apos) [] [] mpos) X.env)] := by rfl) :
    SO X W M (.Call (.Name "list" p) [.Call (.Attribute o "values" apos) [] [] mpos] [] pos) (cVals c) := by
  obtain ⟨t, pe, q⟩ := h.go
  refine ⟨tListVals t, pe_listVals hc hg hm pe hbase hline hse, fun C fs env σ H tf Q hC G po => ?_⟩
  refine q C fs env σ H tf _ hC G ?_
  unfold cVals at po
  cases e1 : c env with
  | err => rw [e1] at po; exact po
  | ex x env' => rw [e1] at po; exact po
  | ok d env1 =>
    rw [e1] at po
    intro v fs1 H1 fp G1 s1 r
    cases d with
    | dct g ks ds =>
      cases g with
      | m =>
        have po' : PostO W C M tf fs env σ H Q (.ok (.lst .m ds) env1) := po
        obtain ⟨a, kvs, f1, f2, rfl, n, hks, rz, _, rfl⟩ := r
        have hd : Rd H1 a (.dK kvs) := (n.rd G1.fr).rd fun xs => by intro z; cases z
        refine ⟨a, kvs, rfl, hd, fun p hp => ?_⟩
        have le : Le H1 (upd H1 p (.lst (kvs.map (·.2)))) := Le.new hp
        have G2 : Good C fs1 env1 σ H1 (f2 ++ tf) := G1.sub (by rw [List.append_assoc]; exact List.sublist_append_right _ _)
        have G3 := G2.new (o := .lst (kvs.map (·.2))) hp trivial
        refine po' (.ref p) fs1 _ (p :: f2) (by simpa using G3) ?_ ⟨p, kvs.map (·.2), [p], f2, rfl, ⟨upd_same, rfl⟩, rz.le le, .inl rfl, rfl⟩
        have := s1.trans (Step.grow (M := []) G1.drop le)
        simpa using this
      | _ => exact po.elim
    | _ => exact po.elim
/-! ### sorted, what is in it goes along -/
def cSortM (c : CE) : CE := fun env => (c env).bind fun d env => match d with
  | .lst .m ds => if sortOkM ds then .ok (.lst .m (ds.mergeSort leD)) env else .err
  | _ => .err
def rSortM (X : Cx) : List V → Hp → VK → Prop := fun xs H Q => ∃ (C : Ctx) (ds : List D) (vs : List V) (f2 : List Addr) (a : Addr), C.At X ∧ Fr C H ∧ xs = [V.ref a] ∧ SqL X.K H a vs ∧ Reps C H ds vs f2 ∧ sortOkM ds = true ∧ ∀ p, H p = none → ∀ vs' fp', Reps C H (ds.mergeSort leD) vs' fp' → fp'.Perm f2 → Q (.ref p) (upd H p (.lst vs'))
theorem call_sortM {k : Nat} (hr : Room k X.A) : CallR X (.builtin "sorted") (rSortM X) := by
  intro pins s σ H xs us Q I rv h
  obtain ⟨C, ds, vs, f2, a, hC, hF, ex, q, rz, hok, kk⟩ := h
  subst ex
  obtain ⟨u, rfl, ru⟩ := vals1 rv
  cases (show u = Value.ref a from ru)
  obtain ⟨its, rv2, ⟨o, n, ho, hc, hdi, hd⟩, hz⟩ := I.list q
  refine sorted_byP I hr hC hF hok rz (fun hR => ?_) kk
  exact wpAny_collect_seq a (T := "list") (.inl rfl) ho hc hd (fun h' hk => hR h' s.toks its hk rv2) (by rw [List.size_toArray, ← rv2.length]; exact hz)
theorem so_sortM {k : Nat} {pf : Pos} (hr : Room k X.A) (hg : Gl X "sorted") (hm : X.mg "sorted" = none) (h : SO X W M e c) (he : starEach [e] X.env = [(false, eval e X.env)] := by rfl) :
    SO X W M (.Call (.Name "sorted" pf) [e] [] pos) (cSortM c) := by
  obtain ⟨t, pe, q⟩ := h.go
  refine ⟨_, pe_callB (call_sortM (X := X) hr) hg hm (by decide +kernel) (pa_cons pe pa_nil he) (by decide) (by decide) he (by rfl), fun C fs env σ H tf Q hC G po => ?_⟩
  show t σ H fun v H1 => rSortM X [v] H1 Q
  refine q C fs env σ H tf _ hC G ?_
  unfold cSortM at po
  cases e1 : c env with
  | err => rw [e1] at po; exact po
  | ex x env' => rw [e1] at po; exact po
  | ok d env1 =>
    rw [e1] at po
    intro v fs1 H1 fp G1 s1 r
    cases d with
    | lst g ds =>
      cases g with
      | m =>
        cases hok : sortOkM ds with
        | false => simp only [R.bind, hok] at po; exact po.elim
        | true =>
          have po' : PostO W C M tf fs env σ H Q (.ok (.lst .m (ds.mergeSort leD)) env1) := by simpa only [R.bind, hok, if_true] using po
          obtain ⟨a, vs, f1, f2, rfl, n, rz, _, rfl⟩ := r
          refine ⟨C, ds, vs, f2, a, hC, G1.fr, rfl, by have := (Nd.rd n G1.fr).sql; rwa [hC.1] at this, rz, hok, fun p hp vs' fp' rz' hpf => ?_⟩
          have le : Le H1 (upd H1 p (.lst vs')) := Le.new hp
          have G2 : Good C fs1 env1 σ H1 (f2 ++ tf) := G1.sub (by rw [List.append_assoc]; exact List.sublist_append_right _ _)
          have G2' : Good C fs1 env1 σ H1 (fp' ++ tf) := G2.perm (hpf.append_right tf)
          have G3 := G2'.new (o := .lst vs') hp trivial
          refine po' (.ref p) fs1 _ (p :: fp') (by simpa using G3) ?_ ⟨p, vs', [p], fp', rfl, ⟨upd_same, rfl⟩, rz'.le le, .inl rfl, rfl⟩
          have := s1.trans (Step.grow (M := []) G1.drop le)
          simpa using this
      | _ => exact po.elim
    | _ => exact po.elim
@[simp] theorem e_cVals {env : Env} : cVals c env = (c env).bind fun d env => match d with
  | .dct .m _ ds => .ok (.lst .m ds) env
  | _ => .err := (rfl)
@[simp] theorem e_cSortM {env : Env} : cSortM c env = (c env).bind fun d env => match d with
  | .lst .m ds => if sortOkM ds then .ok (.lst .m (ds.mergeSort leD)) env else .err
  | _ => .err := (rfl)
end
end VS

set_option maxRecDepth 100000
set_option maxHeartbeats 0
namespace PySem
open Sem (wp)
open AutoSeq1 (wpAny_loadPart')
theorem meets_enumerate_newT (l : Addr) (items : Array Value) (n : Nat) (dct : Option Addr) (sl : Array (Option Value)) :
    Meets (Builtin.«enumerate.__new__» ⟨[.type "enumerate", .ref l], []⟩) (fun _ R s => s.heap.get? l = some { cls := .type "tuple", dict := dct, data := .seq items n, slots := sl } ∧
      R (.ok (.ret (.ref (s.heap.push { cls := .type "tuple_iterator", data := .fields #[.ref l, .int 0 0] }).objs.size)))
        { s with heap := (s.heap.push { cls := .type "tuple_iterator", data := .fields #[.ref l, .int 0 0] }).push { cls := .type "enumerate", data := .fields #[.none, .bool false, .ref s.heap.objs.size, rawInt 0, .none, .none] } }) :=
  .of_wp fun prog w A R s h => by
    obtain ⟨hp, g, d, tk, os⟩ := s; obtain ⟨hl, h⟩ := h
    have hsub := sub_enumerate
    have hL : Heap.IsTuple (Shared.heap ⟨hp, g, d, tk, os⟩) l items := ⟨_, hl, rfl, n, rfl⟩
    wp_walk using wpAny_loadPart' hl
    refine wpAny_stack_any fun st => wpAny_pure ?_
    split
    · rename_i c _ _ _ _ _
      cases (c == Value.type "enumerate")
      · wp_walk using wpAny_loadPart' hl, wpAny_pyIter_tuple hL
        exact ⟨_, rfl, h⟩
      · wp_walk using wpAny_loadPart' hl, wpAny_pyIter_tuple hL
        exact ⟨_, rfl, h⟩
    · wp_walk using wpAny_loadPart' hl, wpAny_pyIter_tuple hL
      exact ⟨_, rfl, h⟩
section
variable {prog : Program} {w : World} {A : Around} {E : Value → Shared → Prop} {s : Shared}
theorem call_enumerate_tuple {l : Addr} {items : Array Value} {Q : Value → Shared → Prop} (hL : s.heap.IsTuple l items)
    (h : ∀ h', IsEnum h' (s.heap.objs.size + 1) s.heap.objs.size 0 .none → h'.IsTupleIter s.heap.objs.size l 0 → h'.objs.size = s.heap.objs.size + 2 →
      (∀ b o, s.heap.get? b = some o → h'.get? b = some o) → Q (.ref (s.heap.objs.size + 1)) { s with heap := h' }) :
    wpAny (model prog w) A (call (.type "enumerate") [.ref l]) Q E s := by
  obtain ⟨⟨c, dct, dt, sl⟩, hl, hc, n, hd⟩ := hL
  replace hc : c = .type "tuple" := hc
  replace hd : dt = .seq items n := hd
  subst hc hd
  refine callType_new F.called_enumerate (by decide) (F.typeCall_enumerate_1 _) (F.newCall_enumerate_1 _) (fun obj => F.args_object_init_2 obj _) F.entry_enumerate_new
    (meets_enumerate_newT l items n dct sl) ⟨hl, ?_⟩
  have hz : (s.heap.push { cls := .type "tuple_iterator", data := .fields #[.ref l, .int 0 0] }).objs.size = s.heap.objs.size + 1 := Heap.size_push ..
  show _ ∧ _
  rw [hz]
  have he : IsEnum ((s.heap.push { cls := .type "tuple_iterator", data := .fields #[.ref l, .int 0 0] }).push
      { cls := .type "enumerate", data := .fields #[.none, .bool false, .ref s.heap.objs.size, rawInt 0, .none, .none] }) (s.heap.objs.size + 1) s.heap.objs.size 0 .none := by
    have := Heap.get?_push_size (s.heap.push { cls := .type "tuple_iterator", data := .fields #[.ref l, .int 0 0] })
      (o := { cls := .type "enumerate", data := .fields #[.none, .bool false, .ref s.heap.objs.size, rawInt 0, .none, .none] }) rfl
    rw [hz] at this; exact this
  refine ⟨⟨_, he, rfl⟩, h _ he ⟨_, Heap.get?_push_of_some _ (Heap.get?_push_size _ rfl), rfl, rfl⟩ (by rw [Heap.size_push, hz]) fun b o x => Heap.get?_push_of_some _ (Heap.get?_push_of_some _ x)⟩
end
end PySem
namespace VS
open PySem L2 SeqAt PySem.Spec PyProof.Rows
def IteT (K : PySem.W.Frag) (a : Addr) : It :=
  ⟨fun i H => ∃ (xs : List V) (x : V), SqT K H a xs ∧ xs[i]? = some x, fun i H v H' => ∃ T x, v = .ref T ∧ H T = none ∧ H' = upd H T (.tup [.int (i : Nat), x]) ∧ ∀ xs, SqT K H a xs → xs[i]? = some x, fun i H => ∃ xs : List V, SqT K H a xs ∧ xs.length ≤ i⟩
theorem turn_enumT {P : Program} {w : World} {K : PySem.W.Frag} {elts : List Expr} {kk : Nat} {tpos : Pos} (a e it : Addr) :
    Turn P w K (.Tuple elts kk tpos) (IteT K a) [e, it] e (fun i h => (∃ old, IsEnum h e it ((i : Nat) : Int) old) ∧ h.IsTupleIter it a i ∧ e ≠ it) where
  mem := by simp
  obj := fun i h st b hb => by
    obtain ⟨⟨old, he⟩, ⟨o, ho, hc, hd⟩, _⟩ := st
    have e' : b = e ∨ b = it := by simpa using hb
    rcases e' with z | z
    · rw [z]; exact ⟨_, he, fun v q => nomatch q⟩
    · rw [z]; exact ⟨o, ho, fun v q => by rw [hd] at q; cases q⟩
  keep := fun i h h' st k => let ⟨⟨old, he⟩, hi, hne⟩ := st; ⟨⟨old, k e (by simp) _ he⟩, hi.at fun o q => k it (by simp) o q, hne⟩
  item := by
    intro X hP hw hK hc i pins s σ H E I hf st hg
    subst hP hw hK
    obtain ⟨⟨old, he⟩, hit, hne⟩ := st
    obtain ⟨xs, x, hq, hx⟩ := hg
    obtain ⟨its, rv, p, hz⟩ := I.tuple hq
    obtain ⟨u, hu, ru⟩ := rv.get hx
    have hel : e < s.heap.objs.size := Heap.lt_size he
    have hil : it < s.heap.objs.size := by obtain ⟨_, q, _⟩ := hit; exact Heap.lt_size q
    have pT : s.heap.IsTuple a its.toArray := p
    have hai : a ≠ it := by
      rintro rfl
      obtain ⟨o1, q1, c1, _⟩ := hit
      obtain ⟨o2, q2, c2, _⟩ := pT
      rw [q1] at q2; cases q2; rw [c1] at c2; exact absurd c2 (by decide)
    have hae : a ≠ e := by
      rintro rfl
      obtain ⟨o2, q2, c2, _⟩ := pT
      rw [he] at q2; cases q2; exact absurd (show Value.type "enumerate" = Value.type "tuple" from c2) (by decide)
    have hlt : i < its.toArray.size := by
      have := (List.getElem?_eq_some_iff.mp hu).1
      simpa using this
    have D := PySem.Draws.tuple (prog := X.prog) (w := X.w) (A := X.A.in1) (I.ok.hd hc) it a hai its.toArray
    refine wpAny_pyNext_enum_itemD D he ⟨hit, pT⟩ hlt hne (by simp [hne, Ne.symm hae]) fun x' h' tk hP ho hst hT hsz hk => ?_
    have hxu : x' = u := by
      have : its.toArray[i]? = some x' := hP
      rw [List.getElem?_toArray, hu] at this
      exact (Option.some.inj this).symm
    subst hxu
    refine ⟨_, rfl, wpAny_letOwnedTupleGo_enum (s := { s with heap := h', toks := tk + 1 }) ho fun h'' he' sb => ?_⟩
    have hT2 : h''.get? s.heap.objs.size = some { cls := .type "tuple", data := .seq #[.int i tk, x'] } := (sb.2 _ (Nat.ne_of_gt hel)).trans hT
    have new : ObjOk X.prog X.w (upd H s.heap.objs.size (.tup [.int (i : Nat), x])) h'' s.heap.objs.size (.tup [.int (i : Nat), x]) :=
      ⟨by show 2 ≤ sizeLine; decide, [.int i tk, x'], .cons ⟨_, rfl⟩ (.cons ru .nil), ⟨_, hT2, rfl, _, rfl⟩⟩
    have I1 : Inv X pins σ (upd H s.heap.objs.size (.tup [.int (i : Nat), x])) { s with heap := h'', toks := tk + 1 } :=
      I.turnedNew (ch := [e, it]) (fun b ob hb q => (sb.2 b (fun z => hb (by simp [z]))).trans (hk b ob (fun z => hb (by simp [z])) (fun z => hb (by simp [z])) q)) hf (Nat.le_refl _) new
    refine ⟨.ref s.heap.objs.size, _, I1, rfl, ⟨_, x, rfl, I.hok.fresh (Nat.le_refl _), rfl, fun ys hy => by rw [I.tuple_inj hy hq]; exact hx⟩, ⟨⟨x', ?_⟩, hst.1.at fun o q => (sb.2 it (Ne.symm hne)).trans q, hne⟩, fun b hb => ?_⟩
    · have e1 : ((i + 1 : Nat) : Int) = (i : Int) + 1 := by omega
      rw [e1]; exact he'
    · have hb' : b < s.heap.objs.size := by
        have e' : b = e ∨ b = it := by simpa using hb
        rcases e' with z | z
        · rw [z]; exact hel
        · rw [z]; exact hil
      rw [upd_ne (Nat.ne_of_lt hb')]
      exact (hf b hb).1
  done := by
    intro X hP hw hK hc i pins s σ H E I hf st hg
    subst hP hw hK
    obtain ⟨⟨old, he⟩, hit, hne⟩ := st
    obtain ⟨xs, hq, hx⟩ := hg
    obtain ⟨its, rv, p, hz⟩ := I.tuple hq
    obtain ⟨f0, f1, f2, f3, f4, f5⟩ := hf it (by simp)
    have pT : s.heap.IsTuple a its.toArray := p
    have hl := rv.length
    have hT : s.TypeIs (.ref e) "enumerate" := ⟨_, he, rfl⟩
    unfold pyNext
    refine wpAny_bind (wpAny_attempt (wpAny_callSpecial?_slot (name := Str.ofString "__next__") hT F.slot_enumerate_next
      (wpAny_call_entry F.slot_enumerate_next hT F.entry_enumerate_next ?_ (F.args_enumerate_next_1 _))))
    show wpAny _ _ (field (.ref e) 2 >>= _) _ _ _
    refine wpAny_bind (wpAny_field he rfl (x := .ref it) rfl ?_)
    refine wpAny_bind (PySem.wpAny_nextOf_tuple_end (I.ok.hd hc) hit pT (by simp; omega) fun h' x he' hx' => ?_)
    obtain ⟨o, ho, hcc⟩ := hx'
    refine wpAny_bind (wpAny_isInstance (T := "StopIteration") (b := true) ⟨o, ho, hcc⟩ isSubtype_stop ?_)
    exact wpAny_pure ⟨rfl, I.turned (t' := s.toks) (fun b o hb q => he' b o hb q) f0 f1 f3 f4 f5⟩
  self := fun A i s Q E st h => let ⟨⟨_, he⟩, _⟩ := st; wpAny_pyIter_enum he h
def iEnumT (K : PySem.W.Frag) (ta : TA) : TI := fun σ H R => ta σ H fun vs H1 => ∃ a xs, vs = [.ref a] ∧ SqT K H1 a xs ∧ R (IteT K a) H1
theorem pi_enumT {X : Cx} {e : Expr} {ta : TA} {p pos tpos : Pos} {elts : List Expr} {kk : Nat} (hg : Gl X "enumerate") (hm : X.mg "enumerate" = none) (ha : PA X [e] ta) (hs : starEach [e] X.env = [(false, eval e X.env)] := by rfl) :
    PI X (.Tuple elts kk tpos) (.Call (.Name "enumerate" p) [e] [] pos) (iEnumT X.K ta) := by
  refine ⟨fun pins s σ H R I h => ?_⟩
  refine Call_ (ld_blt I hg hm boot_enumerate (PyProof.Rows.callWith_type1 (thn (ha.run pos pins s σ H _ I h) fun us s1 ⟨vs, H1, I1, r1, q1⟩ => ?_) hs rfl))
  obtain ⟨a, xs, ex, hq, q⟩ := q1
  subst ex
  cases r1 with
  | cons r rr =>
    cases rr
    cases r
    obtain ⟨its, rv, p', hz⟩ := I1.tuple hq
    refine PySem.call_enumerate_tuple (show s1.heap.IsTuple a its.toArray from p') fun h' he hit hsz hk => wpAny_pyIter_enum he ?_
    have I2 : Inv X pins σ H1 { s1 with heap := h' } := I1.kept (t' := s1.toks) hk
    refine ⟨s1.heap.objs.size + 1, [s1.heap.objs.size + 1, s1.heap.objs.size], _, _, H1, rfl, I2, turn_enumT a (s1.heap.objs.size + 1) s1.heap.objs.size, ⟨⟨.none, he⟩, hit, Nat.succ_ne_self _⟩, fun b hb => ?_, q⟩
    have e' : b = s1.heap.objs.size + 1 ∨ b = s1.heap.objs.size := by simpa using hb
    have hle : s1.heap.objs.size ≤ b := by
      rcases e' with z | z
      · rw [z]; exact Nat.le_add_right _ _
      · rw [z]; exact Nat.le_refl _
    exact I1.fpOk hle (I1.hok.fresh hle)
/-- enumerate over a list or a tuple -/
def iEnumG (c : CE) : CA := fun env => (c env).bind fun d env => match d with
  | .lst _ ds => if imms ds then .ok (numD 0 ds) env else .err
  | .tup ds => if imms ds then .ok (numD 0 ds) env else .err
  | _ => .err
section
variable {X : Cx} {W : WX} {M Rs : List Nat} {e tg : Expr} {ca : CE} {pos p : Pos}
theorem walk_enumT {K : PySem.W.Frag} {a : Addr} {xs : List V} : Walk (IteT K a) xs.length (fun H => SqT K H a xs) (YPair (fun i => some (.int (i : Nat))) (fun i => xs[i]?)) := by
  refine ⟨fun i _ hi q => ⟨xs, xs[i], q, by simp [hi]⟩, fun _ q => ⟨xs, q, Nat.le_refl _⟩, fun i H v H' _ q y => ?_⟩
  obtain ⟨T, x, h1, h2, h3, h4⟩ := y
  exact ⟨T, .int (i : Nat), x, h1, h2, h3, rfl, h4 xs q⟩
def iEnumTD (c : CE) : CA := fun env => (c env).bind fun d env => match d with
  | .tup ds => if imms ds then .ok (numD 0 ds) env else .err
  | _ => .err
theorem si_enumT {elts : List Expr} {kk : Nat} {tpos p2 : Pos} (hg : Gl X "enumerate") (hm : X.mg "enumerate" = none) (h : SB X W M Rs e ca) (hs : starEach [e] X.env = [(false, eval e X.env)] := by rfl) : SI X W M Rs (.Tuple elts kk tpos) (.Call (.Name "enumerate" p2) [e] [] pos) (iEnumTD ca) := by
  obtain ⟨t, p, q⟩ := h.go
  refine ⟨iEnumT X.K (tCons t tNil), pi_enumT hg hm (pa_cons p pa_nil hs) hs, fun C fs env σ H tf Q hC G po => ?_⟩
  show t σ H fun x H1 => _
  refine q C fs env σ H tf _ hC G ?_
  unfold iEnumTD at po
  cases e1 : ca env with
  | err => rw [e1] at po; exact po
  | ex x env' => rw [e1] at po; exact po
  | ok d env1 =>
    rw [e1] at po
    intro v fs1 H1 fp own G1 s1 r1 i1
    cases d with
    | tup ds =>
      have po' : PostI W C M Rs tf fs env σ H Q (if imms ds then .ok (numD 0 ds) env1 else .err) := po
      by_cases hi : imms ds = true
      · rw [if_pos hi] at po'
        obtain ⟨a, vs, rfl, sq, rs, kp⟩ := src_tup hC r1 hi
        refine ⟨a, vs, rfl, sq, po' _ fs1 H1 fp own G1 s1 ⟨?_⟩ i1⟩
        rw [numD_len, reps_length rs]
        refine Walk.mono (walk_enumT (K := X.K) (a := a) (xs := vs)) (fun H2 h2 => (kp H2 h2).1) fun i H2 x H3 hi2 h2 ⟨T, y, z, e1, e2, e3, e4, e5⟩ => ?_
        subst e1 e3
        cases e4
        obtain ⟨d, h1, h3⟩ := reps_imm_get (kp H2 h2).2 hi e5
        have le := Le.new (o := .tup [.int (i : Nat), z]) e2
        refine ⟨le, .tup [.int (i : Nat), d], by rw [numD_get, h1]; simp, T, _, rfl, SqT.of upd_same, .int (i : Nat), [z], [], [], rfl, ⟨rfl, rfl⟩, ⟨z, [], [], [], rfl, h3.le le, ⟨rfl, rfl⟩, rfl⟩, rfl⟩
      · rw [if_neg hi] at po'; exact po'.elim
    | _ => exact po.elim
theorem si_enumG {elts : List Expr} {kk : Nat} {tpos p2 : Pos} (hg : Gl X "enumerate") (hm : X.mg "enumerate" = none) (h : SB X W M Rs e ca) (hs : starEach [e] X.env = [(false, eval e X.env)] := by rfl) : SI X W M Rs (.Tuple elts kk tpos) (.Call (.Name "enumerate" p2) [e] [] pos) (iEnumG ca) := by
  obtain ⟨t, p, q⟩ := (si_enum (elts := elts) (kk := kk) (tpos := tpos) (p2 := p2) (pos := pos) hg hm h hs).go
  obtain ⟨t2, p2, q2⟩ := (si_enumT (elts := elts) (kk := kk) (tpos := tpos) (p2 := p2) (pos := pos) hg hm h hs).go
  refine ⟨_, pi_or p p2, fun C fs env σ H tf Q hC G po => ?_⟩
  unfold iEnumG at po
  cases e1 : ca env with
  | err => rw [e1] at po; exact po.elim
  | ex x env' =>
    refine .inl (q C fs env σ H tf Q hC G ?_)
    unfold iEnumD
    rw [e1] at po ⊢
    exact po
  | ok d env1 =>
    rw [e1] at po
    cases d with
    | lst g ds =>
      refine .inl (q C fs env σ H tf Q hC G ?_)
      unfold iEnumD
      rw [e1]
      exact po
    | tup ds =>
      refine .inr (q2 C fs env σ H tf Q hC G ?_)
      unfold iEnumTD
      rw [e1]
      exact po
    | _ => exact po.elim
@[simp] theorem e_enumG {env : Env} : iEnumG ca env = (ca env).bind fun d env => match d with
  | .lst _ ds => if imms ds then .ok (numD 0 ds) env else .err
  | .tup ds => if imms ds then .ok (numD 0 ds) env else .err
  | _ => .err := (rfl)
end
end VS

set_option maxRecDepth 100000
namespace VS
open PySem L2 SeqAt PySem.Spec PyProof.Rows
/-! ### a statement during which what lies in one cell is only looked at -/
def okN (js : List Nat) (env : Env) : Bool := js.all fun j => match env[j]? with
  | some (some d) => d.nol
  | _ => true
def lendEnd (i : Nat) (d : D) (js : List Nat) : O → O
  | .nx env => if okN js env then .nx (env.set i (some d)) else .err
  | .rt r env => if r.nol && okN js env then .rt r (env.set i (some d)) else .err
  | .bk env => if okN js env then .bk (env.set i (some d)) else .err
  | .ct env => if okN js env then .ct (env.set i (some d)) else .err
  | .ex x env => if okN js env then .ex x (env.set i (some d)) else .err
  | .err => .err
def sLend (i : Nat) (js : List Nat) (c : CS) : CS := fun env => match env[i]? with
  | some (some d) => lendEnd i d js (c (env.set i (some d.lend)))
  | _ => .err
section
variable {X : Cx} {W : WX} {M Vs : List Nat} {st : Stmt} {c : CS} {C : Ctx} {fs : FPs} {env : Env} {σ : L2.St} {H : Hp} {tf : List Addr} {i : Nat} {d : D}
def ctxL (C : Ctx) (fs : FPs) (i : Nat) (tf : List Addr) (H : Hp) : Ctx := ⟨C.K, C.mg, H, (fs.set i []).flatten ++ tf, C.Lk⟩
theorem lend_in (G : Good C fs env σ H tf) (e : env[i]? = some (some d)) : Enter C (ctxL C fs i tf H) H ∧ (∀ a ∈ fs.getD i [], a ∉ (ctxL C fs i tf H).A) ∧ Good (ctxL C fs i tf H) (fs.set i []) (env.set i (some d.lend)) σ H tf := by
  obtain ⟨v, ev, r⟩ := G.rep i d e
  have hi : i < fs.length := by
    have := (List.getElem?_eq_some_iff.mp e).1
    have h1 := G.le; have h2 := G.lf; omega
  have p2 := flat_get fs hi
  have nd : (fs.getD i [] ++ ((fs.set i []).flatten ++ tf)).Nodup := by
    rw [← List.append_assoc]; exact (p2.append_right tf).nodup_iff.mp G.nd
  have sub : ∀ a ∈ (fs.set i []).flatten ++ tf, a ∈ fs.flatten ++ tf := fun a ha => by
    rcases List.mem_append.mp ha with z | z
    · exact List.mem_append_left _ (p2.mem_iff.mpr (List.mem_append_right _ z))
    · exact List.mem_append_right _ z
  have E : Enter C (ctxL C fs i tf H) H := ⟨rfl, rfl, rfl, rfl, G.fr, fun x hx => ⟨G.own x (sub x hx), G.trk x (sub x hx)⟩⟩
  have hd : ∀ a ∈ fs.getD i [], a ∉ (ctxL C fs i tf H).A := fun a ha hm => (List.nodup_append.mp nd).2.2 a ha a hm rfl
  refine ⟨E, hd, by simpa using G.le, by simpa using G.lf, fun j dj ej => ?_, (List.nodup_append.mp nd).2.1, fun a ha => .inl ha, fun a ha => G.trk a (sub a ha), fun a o ea na => .inl ea, G.lk⟩
  rw [List.getElem?_set] at ej
  by_cases hj : i = j
  · subst hj
    have hl : i < env.length := (List.getElem?_eq_some_iff.mp e).1
    simp [hl] at ej
    subst ej
    refine ⟨v, ev, ?_⟩
    rw [getD_set _ _ _ _ hi, if_pos rfl]
    exact r.lend E hd
  · rw [if_neg hj] at ej
    obtain ⟨w, ew, rw'⟩ := G.rep j dj ej
    refine ⟨w, ew, ?_⟩
    rw [getD_set _ _ _ _ hi, if_neg (fun z => hj z.symm)]
    exact rw'.enter E
theorem lend_out {fs' : FPs} {env' : Env} {σ' : L2.St} {H' : Hp} {fp : List Addr} {js : List Nat} (G : Good C fs env σ H tf) (e : env[i]? = some (some d)) (hM : i ∉ M) (hV : i ∉ Vs) (hj : ∀ j, j ∈ M ∨ j ∈ Vs → j ∈ js)
    (G' : Good (ctxL C fs i tf H) fs' env' σ' H' (fp ++ tf)) (s : StepS M Vs tf (fs.set i []) (env.set i (some d.lend)) σ H fs' env' σ' H') (ok : okN js env' = true) :
    Good C (fs'.set i (fs.getD i [])) (env'.set i (some d)) σ' H' (fp ++ tf) ∧ StepS M Vs tf fs env σ H (fs'.set i (fs.getD i [])) (env'.set i (some d)) σ' H' := by
  obtain ⟨E, hd, G1⟩ := lend_in G e
  obtain ⟨v, ev, r⟩ := G.rep i d e
  have hie : i < env.length := (List.getElem?_eq_some_iff.mp e).1
  have hi : i < fs.length := by have h1 := G.le; have h2 := G.lf; omega
  have hev : i < σ.length := by have h1 := G.le; omega
  have hv' := s.v i hV
  have hi' : i < σ'.length := by
    rw [ev] at hv'; exact (List.getElem?_eq_some_iff.mp hv').1
  have hif : i < fs'.length := by have := G'.lf; omega
  have fe : fs'.getD i [] = [] := by
    have := s.s.f i hM
    rw [getD_set _ _ _ _ hi, if_pos rfl] at this; exact this
  have fset : fs'.set i [] = fs' := by
    rw [List.getD_eq_getElem?_getD, List.getElem?_eq_getElem hif] at fe
    simp at fe
    rw [← fe]; simp
  have p1 := flat_set fs' hif (fs.getD i [])
  rw [fset] at p1
  have p2 := flat_get fs hi
  -- what is lent stays
  have keep : ∀ a ∈ fs.getD i [], H' a = H a := fun a ha => by
    obtain ⟨o, ea, mu⟩ := r.trk a ha
    rcases G'.fr a o ea (hd a ha) with q | ⟨q1, _, ob, q⟩
    · rw [q, ea]
    · obtain ⟨ob2, u, z⟩ := G.lk a q1
      rw [ea] at z; cases z; exact mu.elim
  have apart : ∀ a ∈ fs.getD i [], a ∉ fs'.flatten ++ (fp ++ tf) := fun a ha hm => by
    obtain ⟨o, ea, mu⟩ := r.trk a ha
    rcases G'.own a hm with z | z
    · exact hd a ha z
    · have z' : H a = none := z
      rw [ea] at z'; cases z'
  have pp : ((fs'.set i (fs.getD i [])).flatten ++ (fp ++ tf)).Perm (fs.getD i [] ++ (fs'.flatten ++ (fp ++ tf))) := by
    have := p1.append_right (fp ++ tf); rwa [List.append_assoc] at this
  have frC : Fr C H' := fun a o ea na => by
    rcases G.fr a o ea na with q | ⟨q1, q2, ob, q⟩
    · by_cases hA : a ∈ (ctxL C fs i tf H).A
      · rcases (E.a a hA).1 with z | z
        · exact absurd z na
        · rw [ea] at z; cases z
      · rcases G'.fr a o q hA with z | ⟨z1, z2, z3⟩
        · exact .inl z
        · exact .inr ⟨z1, z2, z3⟩
    · exact .inr ⟨q1, q2, ob, s.s.m.z _ _ _ q⟩
  have ownC : ∀ a, (a ∈ (ctxL C fs i tf H).A ∨ H a = none) → a ∈ C.A ∨ C.H0 a = none := fun a ha => by
    rcases ha with z | z
    · exact (E.a a z).1
    · exact G.fr.fresh z
  refine ⟨⟨by have := G'.le; simpa using this, by have := G'.lf; simpa using this, fun j dj ej => ?_, pp.nodup_iff.mpr (List.nodup_append.mpr ⟨?_, G'.nd, fun a ha b hb e => apart a ha (e ▸ hb)⟩), fun a ha => ?_, fun a ha => ?_, frC, G'.lk⟩, ⟨⟨s.s.t, fun j hj' => ?_, fun j hj' => ?_, fun j hj' a ha => ?_, s.s.m⟩, s.v⟩⟩
  · rw [List.getElem?_set] at ej
    by_cases hij : i = j
    · subst hij
      have hl : i < env'.length := by have := G'.le; omega
      simp [hl] at ej
      subst ej
      refine ⟨v, by rw [hv']; exact ev, ?_⟩
      rw [getD_set _ _ _ _ hif, if_pos rfl]
      exact r.keep keep s.s.m
    · rw [if_neg hij] at ej
      rw [getD_set _ _ _ _ hif, if_neg (fun z => hij z.symm)]
      by_cases hjs : j ∈ js
      · obtain ⟨w, ew, rw'⟩ := G'.rep j dj ej
        have hn := List.all_eq_true.mp ok j hjs
        rw [ej] at hn
        exact ⟨w, ew, Rep.leave (C := C) (C' := ctxL C fs i tf H) rfl rfl rfl rw' hn⟩
      · have hjM : j ∉ M := fun z => hjs (hj j (.inl z))
        have hjV : j ∉ Vs := fun z => hjs (hj j (.inr z))
        have e1 := s.s.e j hjM
        rw [ej, List.getElem?_set, if_neg hij] at e1
        obtain ⟨w, ew, rw'⟩ := G.rep j dj e1.symm
        have e2 := s.s.f j hjM
        rw [getD_set _ _ _ _ hi, if_neg (fun z => hij z.symm)] at e2
        refine ⟨w, by rw [s.v j hjV]; exact ew, ?_⟩
        rw [e2]
        refine rw'.keep (fun a ha => ?_) s.s.m
        exact s.s.h j hjM a (by rw [getD_set _ _ _ _ hi, if_neg (fun z => hij z.symm)]; exact ha)
  · have := (p2.append_right tf).nodup_iff.mp G.nd
    rw [List.append_assoc] at this
    exact (List.nodup_append.mp this).1
  · rcases List.mem_append.mp (pp.mem_iff.mp ha) with z | z
    · exact G.own a (List.mem_append_left _ (mem_flat z))
    · exact ownC a (G'.own a z)
  · rcases List.mem_append.mp (pp.mem_iff.mp ha) with z | z
    · rw [keep a z]; exact r.trk a z
    · exact G'.trk a z
  · rw [getD_set _ _ _ _ hif]
    by_cases hij : j = i
    · subst hij; simp
    · rw [if_neg hij]
      have := s.s.f j hj'
      rw [getD_set _ _ _ _ hi, if_neg hij] at this; exact this
  · rw [List.getElem?_set]
    by_cases hij : i = j
    · subst hij
      have hl : i < env'.length := by have := G'.le; omega
      simp [hl, e]
    · rw [if_neg hij]
      have := s.s.e j hj'
      rw [List.getElem?_set, if_neg hij] at this; exact this
  · by_cases hij : j = i
    · subst hij; exact keep a ha
    · exact s.s.h j hj' a (by rw [getD_set _ _ _ _ hi, if_neg hij]; exact ha)
theorem ss_lend (i : Nat) (js : List Nat) (h : SS X W M Vs st c) (hM : i ∉ M ∧ i ∉ Vs := by decide) (hj : ∀ j ∈ M ++ Vs, j ∈ js := by decide) : SS X W M Vs st (sLend i js c) := by
  obtain ⟨t, p, q⟩ := h.go
  have hj' : ∀ j, j ∈ M ∨ j ∈ Vs → j ∈ js := fun j z => hj j (List.mem_append.mpr z)
  refine ⟨t, p, fun C fs env σ H tf E hC G po => ?_⟩
  unfold sLend at po
  cases e1 : env[i]? with
  | none => rw [e1] at po; exact po.elim
  | some od =>
    cases od with
    | none => rw [e1] at po; exact po.elim
    | some d =>
      rw [e1] at po
      simp only at po
      obtain ⟨En, hd, G1⟩ := lend_in G e1
      refine q (ctxL C fs i tf H) (fs.set i []) (env.set i (some d.lend)) σ H tf E hC G1 ?_
      cases e2 : c (env.set i (some d.lend)) with
      | err => rw [e2] at po; exact po.elim
      | nx env' =>
        rw [e2] at po
        intro fs' σ' H' G' s
        cases ok : okN js env' with
        | false => simp only [lendEnd, ok] at po; exact po.elim
        | true =>
          simp only [lendEnd, ok, if_true] at po
          obtain ⟨a, b⟩ := lend_out (fp := []) G e1 hM.1 hM.2 hj' (by simpa using G') s ok
          exact po _ _ _ (by simpa using a) b
      | rt r env' =>
        rw [e2] at po
        intro v fs' σ' H' fp G' s rr
        cases ok : (r.nol && okN js env') with
        | false => simp only [lendEnd, ok] at po; exact po.elim
        | true =>
          simp only [lendEnd, ok, if_true] at po
          obtain ⟨o1, o2⟩ := Bool.and_eq_true_iff.mp ok
          obtain ⟨a, b⟩ := lend_out G e1 hM.1 hM.2 hj' G' s o2
          exact po _ _ _ _ _ a b (Rep.leave (C := C) (C' := ctxL C fs i tf H) rfl rfl rfl rr o1)
      | bk env' =>
        rw [e2] at po
        intro fs' σ' H' G' s
        cases ok : okN js env' with
        | false => simp only [lendEnd, ok] at po; exact po.elim
        | true =>
          simp only [lendEnd, ok, if_true] at po
          obtain ⟨a, b⟩ := lend_out (fp := []) G e1 hM.1 hM.2 hj' (by simpa using G') s ok
          exact po _ _ _ (by simpa using a) b
      | ct env' =>
        rw [e2] at po
        intro fs' σ' H' G' s
        cases ok : okN js env' with
        | false => simp only [lendEnd, ok] at po; exact po.elim
        | true =>
          simp only [lendEnd, ok, if_true] at po
          obtain ⟨a, b⟩ := lend_out (fp := []) G e1 hM.1 hM.2 hj' (by simpa using G') s ok
          exact po _ _ _ (by simpa using a) b
      | ex x env' =>
        rw [e2] at po
        intro cv dd fs' σ' H' G' s xx
        cases ok : okN js env' with
        | false => simp only [lendEnd, ok] at po; exact po.elim
        | true =>
          simp only [lendEnd, ok, if_true] at po
          obtain ⟨a, b⟩ := lend_out (fp := []) G e1 hM.1 hM.2 hj' (by simpa using G') s ok
          exact po _ _ _ _ _ (by simpa using a) b (ExIs.leave (C := C) (C' := ctxL C fs i tf H) rfl rfl rfl xx)
end
@[simp] theorem e_lendS (i : Nat) (js : List Nat) (c : CS) (env : Env) : sLend i js c env = match env[i]? with
  | some (some d) => lendEnd i d js (c (env.set i (some d.lend)))
  | _ => .err := (rfl)
end VS

set_option maxRecDepth 100000
namespace VS
open PySem L2 SeqAt PySem.Spec PyProof.Rows
/-! ### a method with one argument that only looks -/
def cMt (kd : D → Bool) (p : D → D → Option D) (ca cb : CE) : CE := fun env => (ca env).bind fun d env => if kd d then (cb env).bind fun y env => R.of (p d y) env else .err
section
variable {X : Cx} {W : WX} {M1 M2 R1 R2 : List Nat} {o e : Expr} {ca cb : CE} {pos apos : Pos} {T id : String} {name : Str} {r : V → List V → Hp → VK → Prop} {kd : D → Bool} {p : D → D → Option D}
structure LkOk (X : Cx) (T : String) (r : V → List V → Hp → VK → Prop) (kd : D → Bool) (p : D → D → Option D) : Prop where
  run : ∀ C H x y dx dy fx fy d Q, C.At X → Fr C H → Rep C H dx x fx → Rep C H dy y fy → p dx dy = some d → Comes C H d Q → r x [y] H Q
  ty : ∀ C H v d fp, C.At X → Fr C H → Rep C H d v fp → kd d = true → tyV X.K T v H
theorem so_mt1 (lk : LkOk X T r kd p) (pa : PlainAttrs T) (slot : Slot T name id) (hty : typeOf (.builtin id) = pure (.type "method_descriptor")) (hm : MtR X id r) (ha : SB X W M1 R1 o ca) (hb : SB X W M2 R2 e cb) (hd : djB R1 M2 = true)
    (hbase : attributeBase o name X.env (eval o X.env) = eval o X.env)
    (hfew : ((backTo pos (starEach [e] X.env)).all (fun x => !x.1) && (backToKw pos (keywordEach [] X.env)).all (fun x => x.1.isSome)
      && decide ([e].length + ([] : List Keyword).length + (if ([] : List Keyword).isEmpty then 0 else 1) < 30)) = true)
    (hline : (apos.endLine == pos.line) = true) (hs : starEach [e] X.env = [(false, eval e X.env)]) : SO X W (M1 ++ M2) (.Call (.Attribute o name apos) [e] [] pos) (cMt kd p ca cb) := by
  obtain ⟨t, pe, q⟩ := ha.go
  obtain ⟨t2, pe2, q2⟩ := hb.go
  refine ⟨_, pe_bm pa slot hty hm pe (pa_cons pe2 pa_nil hs) hbase hfew hline hs (by rfl), fun C fs env σ H tf Q hC G po => ?_⟩
  show t σ H fun x H1 => tyV X.K T x H1 ∧ t2 σ H1 fun y H2 => r x [y] H2 Q
  refine q C fs env σ H tf _ hC G ?_
  unfold cMt at po
  cases e1 : ca env with
  | err => rw [e1] at po; exact po
  | ex x env' => rw [e1] at po; exact fun cv dd fs' H' G' s => po cv dd fs' H' G' (s.weak (fun i hi => List.mem_append_left _ hi) fun _ z => z)
  | ok d env1 =>
    rw [e1] at po
    intro v fs1 H1 fp1 own1 G1 s1 r1 i1
    simp only [R.bind] at po
    cases hk : kd d with
    | false => simp only [hk] at po; exact po.elim
    | true =>
      simp only [hk, if_true] at po
      refine ⟨lk.ty C H1 v d fp1 hC G1.fr r1 hk, q2 C fs1 env1 σ H1 (own1 ++ tf) _ hC G1 ?_⟩
      cases e2 : cb env1 with
      | err => rw [e2] at po; exact po
      | ex x env' =>
        rw [e2] at po
        exact fun cv dd fs' H' G' s => po cv dd fs' H' G'.drop (s1.trans (s.weak (fun _ z => z) fun x hx => List.mem_append_right _ hx))
      | ok y env2 =>
        rw [e2] at po
        intro w fs2 H2 fp2 own2 G2 s2 r2 i2
        have po' : PostO W C (M1 ++ M2) tf fs env σ H Q (R.of (p d y) env2) := po
        cases e3 : p d y with
        | none => rw [e3] at po'; exact po'.elim
        | some z =>
          rw [e3] at po'
          have G3 : Good C fs2 env2 σ H2 ((own2 ++ own1) ++ tf) := by rw [List.append_assoc]; exact G2
          have s3 := s1.trans (s2.weak (fun _ z => z) fun x hx => List.mem_append_right own1 hx)
          exact lk.run C H2 v w d y fp1 fp2 z Q hC G2.fr (r1.keep (i1.keep s2 (djB_ok hd)) s2.m) r2 e3 (comes_post (own := own2 ++ own1) G3 s3 po')
/-! list.index -/
def flatD : D → Bool
  | .non => true
  | .bl _ => true
  | .int _ => true
  | .str _ => true
  | _ => false
def idxD (ds : List D) (y : D) : Option Nat := match ds with
  | [] => none
  | d :: ds => if pyEq d y then some 0 else (idxD ds y).map (· + 1)
def pIndex : D → D → Option D
  | .lst _ ds, y => if ds.all flatD && flatD y then (idxD ds y).map fun j => .int (j : Nat) else none
  | _, _ => none
variable {C : Ctx} {H : Hp}
theorem flatR {d : D} {v : V} {fp : List Addr} (r : Rep C H d v fp) (h : flatD d = true) : flatV v = true ∧ ∀ {e : D} {w : V} {f : List Addr}, Rep C H e w f → flatD e = true → eqV v w = pyEq d e := by
  cases d with
  | non => obtain ⟨rfl, _⟩ := r; refine ⟨rfl, fun {e w f} r2 h2 => ?_⟩; cases e <;> first | (cases h2; done) | (obtain ⟨rfl, _⟩ := r2; rfl)
  | bl b => obtain ⟨rfl, _⟩ := r; refine ⟨rfl, fun {e w f} r2 h2 => ?_⟩; cases e <;> first | (cases h2; done) | (obtain ⟨rfl, _⟩ := r2; rfl)
  | int b => obtain ⟨rfl, _⟩ := r; refine ⟨rfl, fun {e w f} r2 h2 => ?_⟩; cases e <;> first | (cases h2; done) | (obtain ⟨rfl, _⟩ := r2; rfl)
  | str b => obtain ⟨rfl, _⟩ := r; refine ⟨rfl, fun {e w f} r2 h2 => ?_⟩; cases e <;> first | (cases h2; done) | (obtain ⟨rfl, _⟩ := r2; rfl)
  | _ => cases h
theorem flatsR : ∀ {ds : List D} {vs : List V} {fp : List Addr}, Reps C H ds vs fp → ds.all flatD = true → vs.all flatV = true
  | [], vs, fp, ⟨e, _⟩, _ => by subst e; rfl
  | d :: ds, vs, fp, ⟨v, vs', f1, f2, e, r, rs, _⟩, h => by
    subst e
    simp only [List.all_cons, Bool.and_eq_true] at h ⊢
    exact ⟨(flatR r h.1).1, flatsR rs h.2⟩
theorem idxR {y : D} {w : V} {f : List Addr} (ry : Rep C H y w f) (hy : flatD y = true) : ∀ {ds : List D} {vs : List V} {fp : List Addr} {j : Nat}, Reps C H ds vs fp → ds.all flatD = true → idxD ds y = some j →
    ∃ z, vs[j]? = some z ∧ eqV z w = true ∧ ∀ (m : Nat) (z' : V), m < j → vs[m]? = some z' → eqV z' w = false
  | [], vs, fp, j, _, _, h => by cases h
  | d :: ds, vs, fp, j, ⟨v, vs', f1, f2, e, r, rs, _⟩, hf, h => by
    subst e
    simp only [List.all_cons, Bool.and_eq_true] at hf
    have ev := (flatR r hf.1).2 ry hy
    unfold idxD at h
    by_cases q : pyEq d y = true
    · rw [if_pos q] at h
      cases h
      exact ⟨v, rfl, by rw [ev, q], fun m z' hm => absurd hm (by omega)⟩
    · rw [if_neg q] at h
      obtain ⟨i, hi, rfl⟩ := Option.map_eq_some_iff.mp h
      obtain ⟨z, h1, h2, h3⟩ := idxR ry hy rs hf.2 hi
      refine ⟨z, by simpa using h1, h2, fun m z' hm hz => ?_⟩
      cases m with
      | zero => simp at hz; subst hz; rw [ev]; simpa using q
      | succ m => exact h3 m z' (by omega) (by simpa using hz)
theorem lk_index : LkOk X "list" (rIndex X.K) kdL pIndex := by
  refine ⟨fun C H x y dx dy fx fy d Q hC hF r1 r2 e k => ?_, ty_list⟩
  cases dx with
  | lst g ds =>
    simp only [pIndex] at e
    split at e
    case isFalse => cases e
    rename_i hf
    rw [Bool.and_eq_true] at hf
    obtain ⟨j, hj, rfl⟩ := Option.map_eq_some_iff.mp e
    obtain ⟨a, vs, f, rfl, q, rz⟩ := rep_list hC hF r1
    obtain ⟨z, h1, h2, h3⟩ := idxR r2 hf.2 rz hf.1 hj
    exact ⟨a, vs, y, j, z, rfl, rfl, q, (flatR r2 hf.2).1, flatsR rz hf.1, h1, h2, h3, k.here ⟨rfl, rfl⟩⟩
  | _ => cases e
theorem so_index (ha : SB X W M1 R1 o ca) (hb : SB X W M2 R2 e cb) (hd : djB R1 M2 = true)
    (hbase : attributeBase o "index" X.env (eval o X.env) = eval o X.env)
    (hfew : ((backTo pos (starEach [e] X.env)).all (fun x => !x.1) && (backToKw pos (keywordEach [] X.env)).all (fun x => x.1.isSome)
      && decide ([e].length + ([] : List Keyword).length + (if ([] : List Keyword).isEmpty then 0 else 1) < 30)) = true)
    (hline : (apos.endLine == pos.line) = true) (hs : starEach [e] X.env = [(false, eval e X.env)]) : SO X W (M1 ++ M2) (.Call (.Attribute o "index" apos) [e] [] pos) (cMt kdL pIndex ca cb) :=
  so_mt1 lk_index F.plainAttrs_list F.slot_list_index F.type_list_index mt_index ha hb hd hbase hfew hline hs
@[simp] theorem e_mt {env : Env} : cMt kd p ca cb env = (ca env).bind fun d env => if kd d then (cb env).bind fun y env => R.of (p d y) env else .err := (rfl)
end
end VS

set_option maxRecDepth 100000
namespace VS
open PySem L2 SeqAt PySem.Spec PyProof.Rows
/-! ### d.update(e) -/
def rUpdD : V → List V → Hp → VK → Prop := fun x xs H Q => ∃ (d o : Addr) (kvs more : List (Key × V)), x = V.ref d ∧ xs = [V.ref o] ∧ H d = some (.dK kvs) ∧ Rd H o (.dK more) ∧ d ≠ o ∧ kvs.length + more.length ≤ sizeLine ∧ Q .non (upd H d (.dK (mergeK kvs more)))
section
variable {X : Cx}
theorem mt_updD : MtR X "dict.update" rUpdD := by
  intro pins s σ H x xs v us Q I rx rxs h
  obtain ⟨d, o, kvs, more, rfl, rfl, hd, ho, hne, hz, q⟩ := h
  obtain rfl : v = Value.ref d := rx
  obtain ⟨u, rfl, ru⟩ := vals1 rxs
  obtain rfl : u = Value.ref o := ru
  obtain ⟨z1, lo1, vs, rel, dd⟩ := dk_of I.hok hd
  obtain ⟨z2, lo2, ms, rel2, dd2⟩ := dk_rd I.hok ho
  have l1 : vs.length = kvs.length := (KV.length rel).symm
  have l2 : ms.length = more.length := (KV.length rel2).symm
  refine call_meetsIn F.slot_dict_update dd.typeIs F.entry_dict_update (F.args_dict_update_2 _ _) (meets_dict_update (mixKind X.prog X.w) d o hne lo2) ⟨vs, ms, dd, dd2, by omega, fun h' hd' ho' hs' => ?_⟩
  have rm := KV.merge rel2 rel
  have hlen : (mergeK kvs more).length ≤ sizeLine := by
    have := merged_length_le vs ms
    rw [KV.length rm]; omega
  refine ⟨.non, upd H d (.dK (mergeK kvs more)), I.write (t' := s.toks) ?_ (.inl rfl) (fun b ob hb e => (hs'.2 b hb).trans e) ?_ (show ObjOk X.prog X.w _ _ _ (.dK (mergeK kvs more)) from ⟨hlen, lo1, _, rm, hd'⟩), rfl, q⟩
  · rw [hd]; trivial
  · obtain ⟨ep, dat⟩ := hd'.dictAt
    obtain ⟨ob, es, hob, _⟩ := dat
    exact ⟨ob, hob⟩

def kdM : D → Bool
  | .dct .m _ _ => true
  | _ => false
def mUpdD : D → List D → Option (D × D)
  | .dct .m ks ds, [.dct g ks' ds'] => if (g == .m || decide (ks ≠ ks')) && imms ds && imms ds' && decide (ks'.length = ds'.length) && decide (ks.length + ks'.length ≤ sizeLine) then
      some (.dct .m ((ks'.zip ds').foldl (fun acc p => putP acc p.1 p.2) (ks, ds)).1 ((ks'.zip ds').foldl (fun acc p => putP acc p.1 p.2) (ks, ds)).2, .non) else none
  | _, _ => none
theorem ty_dict : ∀ C H v d fp, C.At X → Fr C H → Rep C H d v fp → kdM d = true → tyV X.K "dict" v H := by
  intro C H v d fp hC hF r h
  cases d with
  | dct g ks ds =>
    cases g with
    | m =>
      obtain ⟨a, kvs, f1, f2, rfl, n, _⟩ := r
      exact .inr (.inr (.inl ⟨rfl, .inl ⟨kvs, n.1⟩⟩))
    | _ => cases h
  | _ => cases h
theorem zip_fst' {α β : Type} : ∀ {xs : List α} {ys : List β}, xs.length = ys.length → (xs.zip ys).map (·.1) = xs
  | [], [], _ => rfl
  | x :: xs, y :: ys, h => by simp [zip_fst' (xs := xs) (ys := ys) (by simpa using h)]
theorem zip_snd' {α β : Type} : ∀ {xs : List α} {ys : List β}, xs.length = ys.length → (xs.zip ys).map (·.2) = ys
  | [], [], _ => rfl
  | x :: xs, y :: ys, h => by simp [zip_snd' (xs := xs) (ys := ys) (by simpa using h)]
theorem mu_updD : MuOk X "dict" rUpdD kdM mUpdD := by
  refine ⟨?_, ty_dict⟩
  intro C H v d fp vs ds fpa Q d' res hC hF r ra nd h k
  unfold mUpdD at h
  split at h
  case h_2 => cases h
  rename_i ks ds0 g ks' ds'
  split at h
  case isFalse => cases h
  rename_i hc
  simp only [Bool.and_eq_true, decide_eq_true_eq] at hc
  obtain ⟨⟨⟨⟨hg, hi⟩, hi'⟩, hl⟩, hz⟩ := hc
  cases h
  obtain ⟨a, kvs, f1, f2, rfl, n, ⟨hks, hn⟩, rz, _, rfl⟩ := r
  obtain ⟨hH, rfl⟩ := n
  have z := rz.imm hi
  subst z
  obtain ⟨w, rfl, rx⟩ := reps1 ra
  obtain ⟨o, more, g1, g2, rfl, n2, ⟨hks2, hn2⟩, rz2, _, rfl⟩ := rx
  have z2 := rz2.imm hi'
  subst z2
  have ro : Rd H o (.dK more) := (n2.rd hF).rd fun xs => by intro z; cases z
  have hne : a ≠ o := by
    rintro rfl
    rw [Bool.or_eq_true, decide_eq_true_eq] at hg
    rcases hg with hg | hg
    · have : g = .m := by cases g <;> first | rfl | cases hg
      subst this
      obtain ⟨_, rfl⟩ := n2
      simp at nd
    · rcases ro with q | ⟨ob, q⟩
      · rw [hH] at q; cases q; exact hg (hks.symm.trans hks2)
      · rw [hH] at q; cases q
  have m := Mono.upd (o := .dK (mergeK kvs more)) hH trivial
  have hl2 : (ks'.zip ds').map (·.1) = ks' := zip_fst' hl
  have hl3 : (ks'.zip ds').map (·.2) = ds' := zip_snd' hl
  obtain ⟨q1, q2, q3⟩ := merge_rep (C := C) (H := H) (ps := ks'.zip ds') (kvs := more) (acc := kvs) (kd := (ks, ds0)) (by rw [hks2, hl2]) (by rw [hl3]; exact rz2) hks hn rz
  refine ⟨a, o, kvs, more, rfl, rfl, hH, ro, hne, ?_, ?_⟩
  · have e1 := congrArg List.length hks
    have e2 := congrArg List.length hks2
    simp at e1 e2; omega
  · refine k _ .non [a] [] m (fun b ob hb hnb => ?_) ⟨a, _, [a], [], rfl, ⟨upd_same, rfl⟩, ⟨q1, q2⟩, q3.keep (fun b hb => nomatch hb) m, .inl rfl, rfl⟩ ⟨rfl, rfl⟩ (by simp) (fun b hb => ?_)
    · rw [upd_ne (fun z => hnb (by simp [z]))]; exact hb
    · simp at hb; subst hb; left; simp
variable {W : WX} {Ma Mb : List Nat} {o e : Expr} {es : List Expr} {cl : CL} {cs : CA} {i : Nat} {apos cpos : Pos}
theorem so_updD (ho : SL X W i Ma o cl) (ha : SAO X W Mb (e :: es) cs)
    (hi : djB [i] Mb = true) (hbase : attributeBase o "update" X.env (eval o X.env) = eval o X.env)
    (hfew : ((backTo cpos (starEach (e :: es) X.env)).all (fun x => !x.1) && (backToKw cpos (keywordEach [] X.env)).all (fun x => x.1.isSome)
      && decide ((e :: es).length + ([] : List Keyword).length + (if ([] : List Keyword).isEmpty then 0 else 1) < 30)) = true)
    (hline : (apos.endLine == cpos.line) = true) (hs : starEach (e :: es) X.env = (false, eval e X.env) :: starEach es X.env) (hplain : (backTo cpos (starEach es X.env)).any (·.1) = false) :
    SO X W (Ma ++ (Mb ++ [i])) (.Call (.Attribute o "update" apos) (e :: es) [] cpos) (cMut i kdM mUpdD cl cs) :=
  so_mut mu_updD PySem.F.plainAttrs_dict PySem.F.slot_dict_update PySem.F.type_dict_update mt_updD ho ha hi hbase hfew hline hs hplain
@[simp] theorem e_kdM (ks : List Key) (ds : List D) : kdM (.dct .m ks ds) = true := (rfl)
end
end VS

set_option maxRecDepth 100000
namespace VS
open PySem L2 SeqAt PySem.Spec PyProof.Rows
/-! ### list(range(n)) -/
def rgD (n : Int) : List D := (List.range n.toNat).map fun i => .int (i : Nat)
def cLRg (c : CE) : CE := fun env => (c env).bind fun d env => match d with
  | .int n => if -(2 ^ 62) ≤ n ∧ n < 2 ^ 62 ∧ n.toNat ≤ 2 ^ 24 then .ok (.lst .m (rgD n)) env else .err
  | _ => .err
section
variable {X : Cx} {W : WX} {M Rs : List Nat} {e : Expr} {c : CE} {p pos p2 pos2 : Pos} {C : Ctx} {H : Hp}
theorem reps_rg : ∀ (is : List Nat), Reps C H (is.map fun i => D.int (i : Nat)) (is.map fun i => V.int (0 + (i : Nat))) []
  | [] => ⟨rfl, rfl⟩
  | i :: is => ⟨_, _, [], [], rfl, ⟨by simp, rfl⟩, reps_rg is, rfl⟩
theorem so_lrg (hc : X.calm = true) (hg : Gl X "list") (hm : X.mg "list" = none) (hg2 : Gl X "range") (hm2 : X.mg "range" = none) (h : SB X W M Rs e c) (na : starEach [e] X.env = (false, eval e X.env) :: starEach [] X.env)
    (na2 : starEach [Expr.Call (.Name "range" p) [e] [] pos] X.env = (false, eval (Expr.Call (.Name "range" p) [e] [] pos) X.env) :: starEach [] X.env) :
    SO X W M (.Call (.Name "list" p2) [.Call (.Name "range" p) [e] [] pos] [] pos2) (cLRg c) := by
  obtain ⟨t, pe, q⟩ := h.go
  refine ⟨_, pe_listRg hc hg hm (prg_1 hg2 hm2 pe na) na2, fun C fs env σ H tf Q hC G po => ?_⟩
  show t σ H fun x H1 => ∃ n, x = V.int n ∧ (RgOk 0 n ∧ ∀ q, H1 q = none → Q (.ref q) (upd H1 q (.lst (rgV 0 n))))
  refine q C fs env σ H tf _ hC G ?_
  unfold cLRg at po
  cases e1 : c env with
  | err => rw [e1] at po; exact po
  | ex x env' => rw [e1] at po; exact po
  | ok d env1 =>
    rw [e1] at po
    intro v fs1 H1 fp own G1 s1 r i1
    simp only [R.bind] at po
    cases d with
    | int n =>
      simp only at po
      obtain ⟨rfl, _⟩ := r
      by_cases hz : -(2 ^ 62) ≤ n ∧ n < 2 ^ 62 ∧ n.toNat ≤ 2 ^ 24
      · rw [if_pos hz] at po
        refine ⟨n, rfl, ⟨by omega, by omega, hz.1, hz.2.1, by have := hz.2.2; omega⟩, fun q hq => ?_⟩
        have le : Le H1 (upd H1 q (.lst (rgV 0 n))) := Le.new hq
        have k := comes_post (own := own) G1 s1 po
        have e0 : (n - 0).toNat = n.toNat := by omega
        have rr : Reps C H1 (rgD n) (rgV 0 n) [] := by
          unfold rgD rgV; rw [e0]; exact reps_rg _
        exact k.lst' rr hq
      · rw [if_neg hz] at po; exact po.elim
    | _ => exact po.elim
@[simp] theorem e_lrg {env : Env} : cLRg c env = (c env).bind fun d env => match d with
  | .int n => if -(2 ^ 62) ≤ n ∧ n < 2 ^ 62 ∧ n.toNat ≤ 2 ^ 24 then .ok (.lst .m (rgD n)) env else .err
  | _ => .err := (rfl)
end
end VS

set_option maxRecDepth 100000
namespace VS
open PySem L2 SeqAt PySem.Spec PyProof.Rows
/-! ### reversed(xs), as a source -/
def iRevD (c : CE) : CA := fun env => (c env).bind fun d env => match d with
  | .lst _ ds => if imms ds then .ok ds.reverse env else .err
  | _ => .err
section
variable {X : Cx} {W : WX} {M Rs : List Nat} {e tg : Expr} {ca : CE} {pos p : Pos}
theorem si_rev (hg : Gl X "reversed") (hm : X.mg "reversed" = none) (h : SB X W M Rs e ca) (hs : starEach [e] X.env = [(false, eval e X.env)]) : SI X W M Rs tg (.Call (.Name "reversed" p) [e] [] pos) (iRevD ca) := by
  obtain ⟨t, pe, q⟩ := h.go
  refine ⟨iRev X.K (tCons t tNil), pi_reversed hg hm (pa_cons pe pa_nil hs) hs, fun C fs env σ H tf Q hC G po => ?_⟩
  show t σ H fun x H1 => _
  refine q C fs env σ H tf _ hC G ?_
  unfold iRevD at po
  cases e1 : ca env with
  | err => rw [e1] at po; exact po
  | ex x env' => rw [e1] at po; exact po
  | ok d env1 =>
    rw [e1] at po
    intro v fs1 H1 fp own G1 s1 r1 i1
    cases d with
    | lst g ds =>
      have po' : PostI W C M Rs tf fs env σ H Q (if imms ds then .ok ds.reverse env1 else .err) := po
      by_cases hi : imms ds = true
      · rw [if_pos hi] at po'
        obtain ⟨a, vs, rfl, sq, rs, kp⟩ := src_list hC G1.fr r1 hi
        refine ⟨a, vs, rfl, sq, po' _ fs1 H1 fp own G1 s1 ⟨?_⟩ i1⟩
        have hl := reps_length rs
        rw [List.length_reverse, hl]
        refine Walk.mono (walk_rev (K := X.K) (a := a) (xs := vs)) (fun H2 h2 => (kp H2 h2).1) fun i H2 x H3 hi2 h2 ⟨e1, e2⟩ => ?_
        subst e1
        obtain ⟨d, h1, h3⟩ := reps_imm_get (kp H3 h2).2 hi e2
        refine ⟨.refl _, d, ?_, h3⟩
        rw [List.getElem?_reverse (by omega), hl]; exact h1
      · rw [if_neg hi] at po'; exact po'.elim
    | _ => exact po.elim
@[simp] theorem e_revD {env : Env} : iRevD ca env = (ca env).bind fun d env => match d with
  | .lst _ ds => if imms ds then .ok ds.reverse env else .err
  | _ => .err := (rfl)
end
end VS

set_option maxRecDepth 100000
namespace VS
open PySem L2 SeqAt PySem.Spec PyProof.Rows
section
variable {X : Cx} {W : WX} {M Vs : List Nat} {c : CS} {C : Ctx} {fs : FPs} {env : Env} {σ : L2.St} {H : Hp} {tf : List Addr} {i : Nat} {d : D}
theorem sss_lend (i : Nat) (js : List Nat) {sts : List Stmt} (h : SSs X W M Vs sts c) (hM : i ∉ M ∧ i ∉ Vs := by decide) (hj : ∀ j ∈ M ++ Vs, j ∈ js := by decide) : SSs X W M Vs sts (sLend i js c) := by
  obtain ⟨t, p, q⟩ := h.go
  have hj' : ∀ j, j ∈ M ∨ j ∈ Vs → j ∈ js := fun j z => hj j (List.mem_append.mpr z)
  refine ⟨t, p, fun C fs env σ H tf E hC G po => ?_⟩
  unfold sLend at po
  cases e1 : env[i]? with
  | none => rw [e1] at po; exact po.elim
  | some od =>
    cases od with
    | none => rw [e1] at po; exact po.elim
    | some d =>
      rw [e1] at po
      simp only at po
      obtain ⟨En, hd, G1⟩ := lend_in G e1
      refine q (ctxL C fs i tf H) (fs.set i []) (env.set i (some d.lend)) σ H tf E hC G1 ?_
      cases e2 : c (env.set i (some d.lend)) with
      | err => rw [e2] at po; exact po.elim
      | nx env' =>
        rw [e2] at po
        intro fs' σ' H' G' s
        cases ok : okN js env' with
        | false => simp only [lendEnd, ok] at po; exact po.elim
        | true =>
          simp only [lendEnd, ok, if_true] at po
          obtain ⟨a, b⟩ := lend_out (fp := []) G e1 hM.1 hM.2 hj' (by simpa using G') s ok
          exact po _ _ _ (by simpa using a) b
      | rt r env' =>
        rw [e2] at po
        intro v fs' σ' H' fp G' s rr
        cases ok : (r.nol && okN js env') with
        | false => simp only [lendEnd, ok] at po; exact po.elim
        | true =>
          simp only [lendEnd, ok, if_true] at po
          obtain ⟨o1, o2⟩ := Bool.and_eq_true_iff.mp ok
          obtain ⟨a, b⟩ := lend_out G e1 hM.1 hM.2 hj' G' s o2
          exact po _ _ _ _ _ a b (Rep.leave (C := C) (C' := ctxL C fs i tf H) rfl rfl rfl rr o1)
      | bk env' =>
        rw [e2] at po
        intro fs' σ' H' G' s
        cases ok : okN js env' with
        | false => simp only [lendEnd, ok] at po; exact po.elim
        | true =>
          simp only [lendEnd, ok, if_true] at po
          obtain ⟨a, b⟩ := lend_out (fp := []) G e1 hM.1 hM.2 hj' (by simpa using G') s ok
          exact po _ _ _ (by simpa using a) b
      | ct env' =>
        rw [e2] at po
        intro fs' σ' H' G' s
        cases ok : okN js env' with
        | false => simp only [lendEnd, ok] at po; exact po.elim
        | true =>
          simp only [lendEnd, ok, if_true] at po
          obtain ⟨a, b⟩ := lend_out (fp := []) G e1 hM.1 hM.2 hj' (by simpa using G') s ok
          exact po _ _ _ (by simpa using a) b
      | ex x env' =>
        rw [e2] at po
        intro cv dd fs' σ' H' G' s xx
        cases ok : okN js env' with
        | false => simp only [lendEnd, ok] at po; exact po.elim
        | true =>
          simp only [lendEnd, ok, if_true] at po
          obtain ⟨a, b⟩ := lend_out (fp := []) G e1 hM.1 hM.2 hj' (by simpa using G') s ok
          exact po _ _ _ _ _ (by simpa using a) b (ExIs.leave (C := C) (C' := ctxL C fs i tf H) rfl rfl rfl xx)
end
end VS

set_option maxRecDepth 100000
namespace VS
open PySem L2 SeqAt PySem.Spec PyProof.Rows
/-! ### a statement that walks over a dict: it is locked meanwhile -/
mutual
def D.nok : D → Bool
  | .tup ds => noks ds
  | .lst g ds => (g != .k) && noks ds
  | .dct g _ ds => (g != .k) && noks ds
  | .obj g _ _ ds => (g != .k) && noks ds
  | _ => true
def noks : List D → Bool
  | [] => true
  | d :: ds => d.nok && noks ds
end
def okK (js : List Nat) (env : Env) : Bool := js.all fun j => match env[j]? with
  | some (some d) => d.nok
  | _ => true
def lockFs (f : Str) : List Str → List D → Option (List D)
  | n :: ns, d :: ds => if n = f then (match d with
      | .dct .l ks es => some (.dct .k ks es :: ds)
      | _ => none) else (lockFs f ns ds).map (d :: ·)
  | _, _ => none
def lockD : Option (Str × Str) → D → Option D
  | none, .dct .l ks ds => some (.dct .k ks ds)
  | some (c, f), .obj .l c' ns ds => if c = c' then (lockFs f ns ds).map (.obj .l c' ns ·) else none
  | _, _ => none
def lockEnd (i : Nat) (d : D) (js : List Nat) : O → O
  | .nx env => if okK js env then .nx (env.set i (some d)) else .err
  | .rt r env => if r.nok && okK js env then .rt r (env.set i (some d)) else .err
  | .bk env => if okK js env then .bk (env.set i (some d)) else .err
  | .ct env => if okK js env then .ct (env.set i (some d)) else .err
  | _ => .err
def sLock (i : Nat) (p : Option (Str × Str)) (js : List Nat) (c : CS) : CS := fun env => match env[i]? with
  | some (some d) => match lockD p d with
    | some d' => lockEnd i d js (c (env.set i (some d')))
    | none => .err
  | _ => .err
def ctxK (C : Ctx) (a : Addr) : Ctx := ⟨C.K, C.mg, C.H0, C.A, a :: C.Lk⟩
section
variable {C C' : Ctx} {H H' : Hp}
theorem reps_tr (tr : ∀ d v, Rep C H d v [] → Rep C' H' d v []) : ∀ {ds vs}, Reps C H ds vs [] → Reps C' H' ds vs []
  | [], vs, h => h
  | d :: ds, vs, ⟨v, vs', f1, f2, e, r, rs, e2⟩ => by
    have h1 : f1 = [] := (List.append_eq_nil_iff.mp e2.symm).1
    have h2 : f2 = [] := (List.append_eq_nil_iff.mp e2.symm).2
    subst h1 h2
    exact ⟨v, vs', [], [], e, tr _ _ r, reps_tr tr rs, rfl⟩
theorem lockFs_ex {f : Str} : ∀ {ns : List Str} {ds ds' : List D} {vs : List V}, lockFs f ns ds = some ds' → Reps C H ds vs [] → ∃ a kvs, (Rd C.H0 a (.dK kvs) ∧ a ∉ C.A) ∧
    ∀ C' H', (∀ d v, Rep C H d v [] → Rep C' H' d v []) → Nd C' H' .k a (.dK kvs) [] → Reps C' H' ds' vs []
  | [], ds, ds', vs, h, _ => by simp [lockFs] at h
  | n :: ns, [], ds', vs, h, _ => by simp [lockFs] at h
  | n :: ns, d :: ds, ds', vs, h, ⟨v, vs', f1, f2, e, r, rs, e2⟩ => by
    have h1 : f1 = [] := (List.append_eq_nil_iff.mp e2.symm).1
    have h2 : f2 = [] := (List.append_eq_nil_iff.mp e2.symm).2
    subst h1 h2
    unfold lockFs at h
    split at h
    · split at h
      · rename_i ks es
        cases h
        obtain ⟨a, kvs, g1, g2, ev, nd, q, r2, z, e3⟩ := r
        have h1 : g1 = [] := (List.append_eq_nil_iff.mp e3.symm).1
        have h2 : g2 = [] := (List.append_eq_nil_iff.mp e3.symm).2
        subst h1 h2
        obtain ⟨⟨h0, na⟩ | ⟨xs, q1, _⟩, _⟩ := nd
        · exact ⟨a, kvs, ⟨h0, na⟩, fun C' H' tr nk => ⟨v, vs', [], [], e, ⟨a, kvs, [], [], ev, nk, q, reps_tr tr r2, .inr rfl, rfl⟩, reps_tr tr rs, rfl⟩⟩
        · cases q1
      · cases h
    · cases hl : lockFs f ns ds with
      | none => rw [hl] at h; cases h
      | some ds2 =>
        rw [hl] at h
        cases h
        obtain ⟨a, kvs, p, k⟩ := lockFs_ex hl rs
        exact ⟨a, kvs, p, fun C' H' tr nk => ⟨v, vs', [], [], e, tr _ _ r, k C' H' tr nk, rfl⟩⟩
theorem lock_at {p : Option (Str × Str)} {d d' : D} {v : V} {fp : List Addr} (h : lockD p d = some d') (r : Rep C H d v fp) : fp = [] ∧ ∃ a kvs, (Rd C.H0 a (.dK kvs) ∧ a ∉ C.A) ∧
    ∀ C' H', C'.mg = C.mg → (∀ d v, Rep C H d v [] → Rep C' H' d v []) → (∀ b u, Nd C H .l b u [] → Nd C' H' .l b u []) → Nd C' H' .k a (.dK kvs) [] → Rep C' H' d' v [] := by
  unfold lockD at h
  split at h
  · rename_i ks ds
    cases h
    obtain ⟨a, kvs, g1, g2, ev, nd, q, r2, z, e3⟩ := r
    have h1 : g1 = [] := nd.2
    have h2 : g2 = [] := z.elim (fun q => nomatch q) id
    subst h1 h2
    obtain ⟨⟨h0, na⟩ | ⟨xs, q1, _⟩, _⟩ := nd
    · exact ⟨e3, a, kvs, ⟨h0, na⟩, fun C' H' _ tr _ nk => ⟨a, kvs, [], [], ev, nk, q, reps_tr tr r2, .inr rfl, rfl⟩⟩
    · cases q1
  · rename_i c f c' ns ds
    split at h
    · rename_i hc
      cases hl : lockFs f ns ds with
      | none => rw [hl] at h; cases h
      | some ds2 =>
        rw [hl] at h
        cases h
        obtain ⟨b, Ca, dx, fls, g1, g2, ev, cl, nd, hn, r2, z, e3⟩ := r
        have h1 : g1 = [] := nd.2
        have h2 : g2 = [] := z.elim (fun q => nomatch q) id
        subst h1 h2
        obtain ⟨a, kvs, pr, k⟩ := lockFs_ex hl r2
        exact ⟨e3, a, kvs, pr, fun C' H' hm tr tn nk => ⟨b, Ca, dx, fls, [], [], ev, clsOf_eq hm cl, tn _ _ nd, hn, k C' H' tr nk, .inr rfl, rfl⟩⟩
    · cases h
  · cases h
end
section
variable {C : Ctx} {H H2 : Hp} {a : Addr} {od : Obj} {kvs : List (Key × V)}
theorem nd_lock (h : H a = some (.dK kvs)) {g b u fp} (n : Nd C H g b u fp) (hfp : a ∉ fp) : Nd (ctxK C a) (L2.upd H a (.frz od (.dK kvs))) g b u fp := by
  cases g with
  | m =>
    obtain ⟨e, rfl⟩ := n
    have hb : b ≠ a := fun z => hfp (by simp [z])
    exact ⟨by rw [upd_ne hb]; exact e, rfl⟩
  | l => exact n
  | f =>
    obtain ⟨⟨o, e⟩, x, q⟩ := n
    have hb : b ≠ a := by rintro rfl; rw [h] at e; cases e
    exact ⟨⟨o, by rw [upd_ne hb]; exact e⟩, by simp [ctxK, hb, x], q⟩
  | k =>
    obtain ⟨⟨o, e⟩, q⟩ := n
    have hb : b ≠ a := by rintro rfl; rw [h] at e; cases e
    exact ⟨⟨o, by rw [upd_ne hb]; exact e⟩, q⟩
mutual
theorem Rep.lockIn (h : H a = some (.dK kvs)) : ∀ {d : D} {v : V} {fp : List Addr}, Rep C H d v fp → a ∉ fp → Rep (ctxK C a) (L2.upd H a (.frz od (.dK kvs))) d v fp
  | .non, v, fp, r, _ => r
  | .bl b, v, fp, r, _ => r
  | .int i, v, fp, r, _ => r
  | .str s, v, fp, r, _ => r
  | .ty s, v, fp, r, _ => r
  | .tup ds, v, fp, ⟨b, vs, e, t, r⟩, hn => ⟨b, vs, e, sqt_keep t (Mono.upd h trivial), Reps.lockIn h r hn⟩
  | .lst g ds, v, fp, ⟨b, vs, f1, f2, e, n, r, z, e2⟩, hn => ⟨b, vs, f1, f2, e, nd_lock h n (fun q => hn (by rw [e2]; exact List.mem_append_left _ q)), Reps.lockIn h r (fun q => hn (by rw [e2]; exact List.mem_append_right _ q)), z, e2⟩
  | .dct g ks ds, v, fp, ⟨b, vs, f1, f2, e, n, q, r, z, e2⟩, hn => ⟨b, vs, f1, f2, e, nd_lock h n (fun q => hn (by rw [e2]; exact List.mem_append_left _ q)), q, Reps.lockIn h r (fun q => hn (by rw [e2]; exact List.mem_append_right _ q)), z, e2⟩
  | .obj g c ns ds, v, fp, ⟨b, Ca, dx, fls, f1, f2, e, c1, n, q, r, z, e2⟩, hn => ⟨b, Ca, dx, fls, f1, f2, e, c1, nd_lock h n (fun q => hn (by rw [e2]; exact List.mem_append_left _ q)), q, Reps.lockIn h r (fun q => hn (by rw [e2]; exact List.mem_append_right _ q)), z, e2⟩
theorem Reps.lockIn (h : H a = some (.dK kvs)) : ∀ {ds : List D} {vs : List V} {fp : List Addr}, Reps C H ds vs fp → a ∉ fp → Reps (ctxK C a) (L2.upd H a (.frz od (.dK kvs))) ds vs fp
  | [], vs, fp, r, _ => r
  | d :: ds, vs, fp, ⟨v, vs', f1, f2, e, r, rs, e2⟩, hn => ⟨v, vs', f1, f2, e, Rep.lockIn h r (fun q => hn (by rw [e2]; exact List.mem_append_left _ q)), Reps.lockIn h rs (fun q => hn (by rw [e2]; exact List.mem_append_right _ q)), e2⟩
end
theorem sqt_unlock {K b xs} (h : H2 a = some (.frz od (.dK kvs))) (t : SqT K H2 b xs) : SqT K (L2.upd H2 a (.dK kvs)) b xs := by
  rcases t with (q | ⟨o, q⟩) | q
  · exact .inl (.inl (by rw [upd_ne (by rintro rfl; rw [h] at q; cases q)]; exact q))
  · exact .inl (.inr ⟨o, by rw [upd_ne (by rintro rfl; rw [h] at q; cases q)]; exact q⟩)
  · exact .inr q
theorem nd_unlock (h : H2 a = some (.frz od (.dK kvs))) {g b u fp} (n : Nd (ctxK C a) H2 g b u fp) (mu : Mutb u) (hg : (g != .k) = true) : Nd C (L2.upd H2 a (.dK kvs)) g b u fp := by
  cases g with
  | m =>
    obtain ⟨e, rfl⟩ := n
    have hb : b ≠ a := by rintro rfl; rw [h] at e; cases e; exact mu
    exact ⟨by rw [upd_ne hb]; exact e, rfl⟩
  | l => exact n
  | f =>
    obtain ⟨⟨o, e⟩, x, q⟩ := n
    simp only [ctxK, List.mem_cons, not_or] at x
    exact ⟨⟨o, by rw [upd_ne x.1]; exact e⟩, x.2, q⟩
  | k => cases hg
mutual
theorem Rep.unlock (h : H2 a = some (.frz od (.dK kvs))) : ∀ {d : D} {v : V} {fp : List Addr}, Rep (ctxK C a) H2 d v fp → d.nok = true → Rep C (L2.upd H2 a (.dK kvs)) d v fp
  | .non, v, fp, r, _ => r
  | .bl b, v, fp, r, _ => r
  | .int i, v, fp, r, _ => r
  | .str s, v, fp, r, _ => r
  | .ty s, v, fp, r, _ => r
  | .tup ds, v, fp, ⟨b, vs, e, t, r⟩, hn => ⟨b, vs, e, sqt_unlock h t, Reps.unlock h r hn⟩
  | .lst g ds, v, fp, ⟨b, vs, f1, f2, e, n, r, z, e2⟩, hn => ⟨b, vs, f1, f2, e, nd_unlock h n trivial (Bool.and_eq_true_iff.mp hn).1, Reps.unlock h r (Bool.and_eq_true_iff.mp hn).2, z, e2⟩
  | .dct g ks ds, v, fp, ⟨b, vs, f1, f2, e, n, q, r, z, e2⟩, hn => ⟨b, vs, f1, f2, e, nd_unlock h n trivial (Bool.and_eq_true_iff.mp hn).1, q, Reps.unlock h r (Bool.and_eq_true_iff.mp hn).2, z, e2⟩
  | .obj g c ns ds, v, fp, ⟨b, Ca, dx, fls, f1, f2, e, c1, n, q, r, z, e2⟩, hn => ⟨b, Ca, dx, fls, f1, f2, e, c1, nd_unlock h n trivial (Bool.and_eq_true_iff.mp hn).1, q, Reps.unlock h r (Bool.and_eq_true_iff.mp hn).2, z, e2⟩
theorem Reps.unlock (h : H2 a = some (.frz od (.dK kvs))) : ∀ {ds : List D} {vs : List V} {fp : List Addr}, Reps (ctxK C a) H2 ds vs fp → noks ds = true → Reps C (L2.upd H2 a (.dK kvs)) ds vs fp
  | [], vs, fp, r, _ => r
  | d :: ds, vs, fp, ⟨v, vs', f1, f2, e, r, rs, e2⟩, hn => ⟨v, vs', f1, f2, e, Rep.unlock h r (Bool.and_eq_true_iff.mp hn).1, Reps.unlock h rs (Bool.and_eq_true_iff.mp hn).2, e2⟩
end
end
section
variable {X : Cx} {W : WX} {M Vs : List Nat} {st : Stmt} {c : CS} {C : Ctx} {fs : FPs} {env : Env} {σ : L2.St} {H : Hp} {tf : List Addr} {i : Nat} {d d' : D} {a : Addr} {od : Obj} {kvs : List (Key × V)}
theorem lock_in {v : V} (G : Good C fs env σ H tf) (e : env[i]? = some (some d)) (ev : σ[i]? = some (some v)) (fe : fs.getD i [] = []) (hH : H a = some (.dK kvs)) (h0 : Rd C.H0 a (.dK kvs) ∧ a ∉ C.A)
    (hd : Rep (ctxK C a) (L2.upd H a (.frz od (.dK kvs))) d' v []) : Good (ctxK C a) fs (env.set i (some d')) σ (L2.upd H a (.frz od (.dK kvs))) tf := by
  have na : a ∉ fs.flatten ++ tf := fun z => by
    rcases G.own a z with q | q
    · exact h0.2 q
    · rcases h0.1 with r | ⟨_, r⟩ <;> rw [q] at r <;> cases r
  have nf : ∀ j, a ∉ fs.getD j [] := fun j z => na (List.mem_append_left _ (mem_flat z))
  refine ⟨by simpa using G.le, G.lf, fun j dj ej => ?_, G.nd, G.own, fun b hb => ?_, fun b o eb nb => ?_, fun b hb => ?_⟩
  · rw [List.getElem?_set] at ej
    by_cases hj : i = j
    · subst hj
      have hlt : i < env.length := (List.getElem?_eq_some_iff.mp e).1
      simp [hlt] at ej
      subst ej
      rw [fe]
      exact ⟨v, ev, hd⟩
    · rw [if_neg hj] at ej
      obtain ⟨v, ev, r⟩ := G.rep j dj ej
      exact ⟨v, ev, r.lockIn hH (nf j)⟩
  · obtain ⟨o, eb, mu⟩ := G.trk b hb
    have hba : b ≠ a := by rintro rfl; exact na hb
    exact ⟨o, by rw [upd_ne hba]; exact eb, mu⟩
  · by_cases hba : b = a
    · subst hba
      rcases G.fr b o eb nb with q | ⟨q1, q2, ob, q⟩
      · rw [hH] at q; cases q
        exact .inr ⟨by simp [ctxK], trivial, od, upd_same⟩
      · rw [hH] at q; cases q
    · rcases G.fr b o eb nb with q | ⟨q1, q2, ob, q⟩
      · exact .inl (by rw [upd_ne hba]; exact q)
      · exact .inr ⟨by simp [ctxK, q1], q2, ob, by rw [upd_ne hba]; exact q⟩
  · by_cases hba : b = a
    · subst hba; exact ⟨od, _, upd_same⟩
    · have hb' : b ∈ C.Lk := by simpa [ctxK, hba] using hb
      obtain ⟨ob, u, q⟩ := G.lk b hb'
      exact ⟨ob, u, by rw [upd_ne hba]; exact q⟩
theorem lock_out {fs' : FPs} {env' : Env} {σ' : L2.St} {H' : Hp} {fp : List Addr} {js : List Nat} (G : Good C fs env σ H tf) (e : env[i]? = some (some d)) (hH : H a = some (.dK kvs)) (h0 : Rd C.H0 a (.dK kvs) ∧ a ∉ C.A)
    (hM : i ∉ M) (hV : i ∉ Vs) (hj : ∀ j, j ∈ M ∨ j ∈ Vs → j ∈ js)
    (G' : Good (ctxK C a) fs' env' σ' H' (fp ++ tf)) (s : StepS M Vs tf fs (env.set i (some d')) σ (L2.upd H a (.frz od (.dK kvs))) fs' env' σ' H') (ok : okK js env' = true) :
    H' a = some (.frz od (.dK kvs)) ∧ Good C fs' (env'.set i (some d)) σ' (L2.upd H' a (.dK kvs)) (fp ++ tf) ∧ StepS M Vs tf fs env σ H fs' (env'.set i (some d)) σ' (L2.upd H' a (.dK kvs)) := by
  have hz : H' a = some (.frz od (.dK kvs)) := s.s.m.z _ _ _ upd_same
  have hie : i < env.length := (List.getElem?_eq_some_iff.mp e).1
  have na0 : ∀ b, b ∈ C.A ∨ C.H0 b = none → b ≠ a := fun b q => by
    rintro rfl
    rcases q with q | q
    · exact h0.2 q
    · rcases h0.1 with r | ⟨_, r⟩ <;> rw [q] at r <;> cases r
  have na : ∀ b ∈ fs'.flatten ++ (fp ++ tf), b ≠ a := fun b hb => na0 b (G'.own b hb)
  have nf : ∀ j b, b ∈ fs.getD j [] → b ≠ a := fun j b hb => na0 b (G.own b (List.mem_append_left _ (mem_flat hb)))
  have mono : Mono H (L2.upd H' a (.dK kvs)) := by
    constructor
    · intro b xs eb
      have hba : b ≠ a := by rintro rfl; rw [hH] at eb; cases eb
      rw [upd_ne hba]; exact s.s.m.t b xs (by rw [upd_ne hba]; exact eb)
    · intro b o u eb
      have hba : b ≠ a := by rintro rfl; rw [hH] at eb; cases eb
      rw [upd_ne hba]; exact s.s.m.z b o u (by rw [upd_ne hba]; exact eb)
  have keepf : ∀ j, j ∉ M → ∀ b ∈ fs.getD j [], L2.upd H' a (.dK kvs) b = H b := fun j hj b hb => by
    rw [upd_ne (nf j b hb), s.s.h j hj b hb, upd_ne (nf j b hb)]
  refine ⟨hz, ⟨by have := G'.le; simpa using this, G'.lf, fun j dj ej => ?_, G'.nd, G'.own, fun b hb => ?_, fun b o eb nb => ?_, fun b hb => ?_⟩, ⟨⟨fun b hb => ?_, s.s.f, fun j hj' => ?_, keepf, mono⟩, s.v⟩⟩
  · rw [List.getElem?_set] at ej
    by_cases hij : i = j
    · subst hij
      have hlt : i < env'.length := by
        have h1 := G'.le
        have h2 := G.le
        obtain ⟨v, ev, _⟩ := G.rep i d e
        have := s.v i hV
        rw [ev] at this
        have := (List.getElem?_eq_some_iff.mp this).1
        omega
      simp [hlt] at ej
      subst ej
      obtain ⟨v, ev, r⟩ := G.rep i d e
      refine ⟨v, by rw [s.v i hV]; exact ev, ?_⟩
      rw [s.s.f i hM]
      exact r.keep (keepf i hM) mono
    · rw [if_neg hij] at ej
      by_cases hjs : j ∈ js
      · obtain ⟨w, ew, rw'⟩ := G'.rep j dj ej
        have hn := List.all_eq_true.mp ok j hjs
        rw [ej] at hn
        exact ⟨w, ew, rw'.unlock hz hn⟩
      · have hjM : j ∉ M := fun z => hjs (hj j (.inl z))
        have hjV : j ∉ Vs := fun z => hjs (hj j (.inr z))
        have e1 := s.s.e j hjM
        rw [ej, List.getElem?_set, if_neg hij] at e1
        obtain ⟨w, ew, rw'⟩ := G.rep j dj e1.symm
        refine ⟨w, by rw [s.v j hjV]; exact ew, ?_⟩
        rw [s.s.f j hjM]
        exact rw'.keep (keepf j hjM) mono
  · obtain ⟨o, eb, mu⟩ := G'.trk b hb
    exact ⟨o, by rw [upd_ne (na b hb)]; exact eb, mu⟩
  · by_cases hba : b = a
    · subst hba
      rcases G.fr b o eb nb with q | ⟨q1, q2, ob, q⟩
      · rw [hH] at q; cases q
        exact .inl upd_same
      · rw [hH] at q; cases q
    · rcases G'.fr b o eb nb with q | ⟨q1, q2, ob, q⟩
      · exact .inl (by rw [upd_ne hba]; exact q)
      · exact .inr ⟨by simpa [ctxK, hba] using q1, q2, ob, by rw [upd_ne hba]; exact q⟩
  · obtain ⟨ob, u, q⟩ := G.lk b hb
    have hba : b ≠ a := by rintro rfl; rw [hH] at q; cases q
    obtain ⟨ob2, u2, q2⟩ := G'.lk b (by simp [ctxK, hb])
    exact ⟨ob2, u2, by rw [upd_ne hba]; exact q2⟩
  · have hba : b ≠ a := na b (by simp [hb])
    rw [upd_ne hba, s.s.t b hb, upd_ne hba]
  · rw [List.getElem?_set]
    by_cases hij : i = j
    · subst hij
      have hlt : i < env'.length := by
        have h1 := G'.le
        obtain ⟨v, ev, _⟩ := G.rep i d e
        have := s.v i hV
        rw [ev] at this
        have := (List.getElem?_eq_some_iff.mp this).1
        omega
      simp [hlt, e]
    · rw [if_neg hij]
      have := s.s.e j hj'
      rw [List.getElem?_set, if_neg hij] at this; exact this
theorem Good.relab {v : V} (G : Good C fs env σ H tf) (e : env[i]? = some (some d)) (ev : σ[i]? = some (some v)) (hd : Rep C H d' v (fs.getD i [])) : Good C fs (env.set i (some d')) σ H tf := by
  refine ⟨by simpa using G.le, G.lf, fun j dj ej => ?_, G.nd, G.own, G.trk, G.fr, G.lk⟩
  rw [List.getElem?_set] at ej
  by_cases hj : i = j
  · subst hj
    have hlt : i < env.length := (List.getElem?_eq_some_iff.mp e).1
    simp [hlt] at ej
    subst ej
    exact ⟨v, ev, hd⟩
  · rw [if_neg hj] at ej
    exact G.rep j dj ej
theorem relab_out {fs' : FPs} {env' : Env} {σ' : L2.St} {H' : Hp} {fp : List Addr} (G : Good C fs env σ H tf) (e : env[i]? = some (some d)) (hM : i ∉ M) (hV : i ∉ Vs)
    (G' : Good C fs' env' σ' H' (fp ++ tf)) (s : StepS M Vs tf fs (env.set i (some d')) σ H fs' env' σ' H') :
    Good C fs' (env'.set i (some d)) σ' H' (fp ++ tf) ∧ StepS M Vs tf fs env σ H fs' (env'.set i (some d)) σ' H' := by
  have hie : i < env.length := (List.getElem?_eq_some_iff.mp e).1
  obtain ⟨v, ev, r⟩ := G.rep i d e
  have hv := s.v i hV
  rw [ev] at hv
  have hlt : i < env'.length := by
    have h1 := G'.le
    have := (List.getElem?_eq_some_iff.mp hv).1
    omega
  refine ⟨⟨by have := G'.le; simpa using this, G'.lf, fun j dj ej => ?_, G'.nd, G'.own, G'.trk, G'.fr, G'.lk⟩, ⟨⟨s.s.t, s.s.f, fun j hj' => ?_, s.s.h, s.s.m⟩, s.v⟩⟩
  · rw [List.getElem?_set] at ej
    by_cases hij : i = j
    · subst hij
      simp [hlt] at ej
      subst ej
      refine ⟨v, hv, ?_⟩
      rw [s.s.f i hM]
      exact r.keep (s.s.h i hM) s.s.m
    · rw [if_neg hij] at ej
      exact G'.rep j dj ej
  · rw [List.getElem?_set]
    by_cases hij : i = j
    · subst hij; simp [hlt, e]
    · rw [if_neg hij]
      have := s.s.e j hj'
      rw [List.getElem?_set, if_neg hij] at this; exact this
theorem ps_or {t1 t2 : TS} (h1 : PS X st t1) (h2 : PS X st t2) : PS X st (fun E σ H => t1 E σ H ∨ t2 E σ H) :=
  ⟨fun pins s σ H E I hw => hw.elim (h1.run pins s σ H E I) (h2.run pins s σ H E I)⟩
theorem ss_lock (i : Nat) (p : Option (Str × Str)) (js : List Nat) (h : SS X W M Vs st c) (hM : i ∉ M ∧ i ∉ Vs := by decide) (hj : ∀ j ∈ M ++ Vs, j ∈ js := by decide) : SS X W M Vs st (sLock i p js c) := by
  obtain ⟨t, pe, q⟩ := h.go
  have hj' : ∀ j, j ∈ M ∨ j ∈ Vs → j ∈ js := fun j z => hj j (List.mem_append.mpr z)
  refine ⟨_, ps_or pe (ps_lock pe), fun C fs env σ H tf E hC G po => ?_⟩
  unfold sLock at po
  cases e1 : env[i]? with
  | none => rw [e1] at po; exact po.elim
  | some od =>
  cases od with
  | none => rw [e1] at po; exact po.elim
  | some d =>
  rw [e1] at po
  simp only at po
  cases hl : lockD p d with
  | none => rw [hl] at po; exact po.elim
  | some d' =>
  rw [hl] at po
  simp only at po
  obtain ⟨v, ev, r⟩ := G.rep i d e1
  obtain ⟨fe, a, kvs, h0, tr⟩ := lock_at hl r
  -- the dict may be frozen already
  have frz : (∃ o, H a = some (.frz o (.dK kvs))) ∨ H a = some (.dK kvs) := by
    rcases h0.1 with z | ⟨o, z⟩
    · rcases G.fr a _ z h0.2 with q | ⟨_, _, ob, q⟩
      · exact .inr q
      · exact .inl ⟨ob, q⟩
    · rcases G.fr a _ z h0.2 with q | ⟨_, mu, ob, q⟩
      · exact .inl ⟨o, q⟩
      · exact mu.elim
  rw [fe] at r
  rcases frz with hf | hH
  · refine .inl (q C fs (env.set i (some d')) σ H tf E hC (G.relab e1 ev (by rw [fe]; exact tr C H rfl (fun _ _ z => z) (fun _ _ z => z) ⟨hf, rfl⟩)) ?_)
    cases e2 : c (env.set i (some d')) with
    | err => rw [e2] at po; exact po.elim
    | ex x env' => rw [e2] at po; exact po.elim
    | nx env' =>
      rw [e2] at po
      intro fs' σ' H' G' s
      cases ok : okK js env' with
      | false => simp only [lockEnd, ok] at po; exact po.elim
      | true =>
        simp only [lockEnd, ok, if_true] at po
        obtain ⟨a1, b1⟩ := relab_out (fp := []) G e1 hM.1 hM.2 (by simpa using G') s
        exact po _ _ _ (by simpa using a1) b1
    | bk env' =>
      rw [e2] at po
      intro fs' σ' H' G' s
      cases ok : okK js env' with
      | false => simp only [lockEnd, ok] at po; exact po.elim
      | true =>
        simp only [lockEnd, ok, if_true] at po
        obtain ⟨a1, b1⟩ := relab_out (fp := []) G e1 hM.1 hM.2 (by simpa using G') s
        exact po _ _ _ (by simpa using a1) b1
    | ct env' =>
      rw [e2] at po
      intro fs' σ' H' G' s
      cases ok : okK js env' with
      | false => simp only [lockEnd, ok] at po; exact po.elim
      | true =>
        simp only [lockEnd, ok, if_true] at po
        obtain ⟨a1, b1⟩ := relab_out (fp := []) G e1 hM.1 hM.2 (by simpa using G') s
        exact po _ _ _ (by simpa using a1) b1
    | rt r1 env' =>
      rw [e2] at po
      intro w fs' σ' H' fp G' s rr
      cases ok : (r1.nok && okK js env') with
      | false => simp only [lockEnd, ok] at po; exact po.elim
      | true =>
        simp only [lockEnd, ok, if_true] at po
        obtain ⟨a1, b1⟩ := relab_out G e1 hM.1 hM.2 G' s
        exact po _ _ _ _ _ a1 b1 rr
  · refine .inr ⟨a, .dK kvs, hH, trivial, fun od => ?_⟩
    have G1 := lock_in (od := od) (d' := d') G e1 ev fe hH h0 (tr (ctxK C a) _ rfl (fun _ _ z => z.lockIn hH (fun q => nomatch q)) (fun _ _ z => nd_lock hH z (fun q => nomatch q)) ⟨⟨od, upd_same⟩, rfl⟩)
    refine q (ctxK C a) fs (env.set i (some d')) σ _ tf _ hC G1 ?_
    cases e2 : c (env.set i (some d')) with
    | err => rw [e2] at po; exact po.elim
    | ex x env' => rw [e2] at po; exact po.elim
    | nx env' =>
      rw [e2] at po
      intro fs' σ' H' G' s
      cases ok : okK js env' with
      | false => simp only [lockEnd, ok] at po; exact po.elim
      | true =>
        simp only [lockEnd, ok, if_true] at po
        obtain ⟨z1, a1, b1⟩ := lock_out (fp := []) G e1 hH h0 hM.1 hM.2 hj' (by simpa using G') s ok
        exact ⟨z1, po _ _ _ (by simpa using a1) b1⟩
    | bk env' =>
      rw [e2] at po
      intro fs' σ' H' G' s
      cases ok : okK js env' with
      | false => simp only [lockEnd, ok] at po; exact po.elim
      | true =>
        simp only [lockEnd, ok, if_true] at po
        obtain ⟨z1, a1, b1⟩ := lock_out (fp := []) G e1 hH h0 hM.1 hM.2 hj' (by simpa using G') s ok
        exact ⟨z1, po _ _ _ (by simpa using a1) b1⟩
    | ct env' =>
      rw [e2] at po
      intro fs' σ' H' G' s
      cases ok : okK js env' with
      | false => simp only [lockEnd, ok] at po; exact po.elim
      | true =>
        simp only [lockEnd, ok, if_true] at po
        obtain ⟨z1, a1, b1⟩ := lock_out (fp := []) G e1 hH h0 hM.1 hM.2 hj' (by simpa using G') s ok
        exact ⟨z1, po _ _ _ (by simpa using a1) b1⟩
    | rt r1 env' =>
      rw [e2] at po
      intro w fs' σ' H' fp G' s rr
      cases ok : (r1.nok && okK js env') with
      | false => simp only [lockEnd, ok] at po; exact po.elim
      | true =>
        simp only [lockEnd, ok, if_true] at po
        obtain ⟨o1, o2⟩ := Bool.and_eq_true_iff.mp ok
        obtain ⟨z1, a1, b1⟩ := lock_out G e1 hH h0 hM.1 hM.2 hj' G' s o2
        exact ⟨z1, po _ _ _ _ _ a1 b1 (rr.unlock z1 o1)⟩
end
@[simp] theorem e_lockS (i : Nat) (p : Option (Str × Str)) (js : List Nat) (c : CS) (env : Env) : sLock i p js c env = match env[i]? with
  | some (some d) => match lockD p d with
    | some d' => lockEnd i d js (c (env.set i (some d')))
    | none => .err
  | _ => .err := (rfl)
/-! ### the keys, the pairs of a locked dict -/
def iKeysD (c : CE) : CA := fun env => (c env).bind fun d env => match d with
  | .dct .k ks _ => .ok (ks.map keyD) env
  | _ => .err
def itemsD : List Key → List D → List D
  | k :: ks, d :: ds => .tup [keyD k, d] :: itemsD ks ds
  | _, _ => []
def iItemsD (c : CE) : CA := fun env => (c env).bind fun d env => match d with
  | .dct .k ks ds => if imms ds then .ok (itemsD ks ds) env else .err
  | _ => .err
theorem rep_keyD {C : Ctx} {H : Hp} (k : Key) : Rep C H (keyD k) (kV k) [] := by
  cases k with
  | inl i => exact ⟨rfl, rfl⟩
  | inr x => exact ⟨rfl, rfl⟩
theorem itemsD_len : ∀ {ks : List Key} {ds : List D}, ks.length = ds.length → (itemsD ks ds).length = ks.length
  | [], [], _ => rfl
  | k :: ks, d :: ds, h => by simp [itemsD, itemsD_len (ks := ks) (ds := ds) (by simpa using h)]
theorem itemsD_get : ∀ {ks : List Key} {ds : List D} {i : Nat} {k : Key} {d : D}, ks[i]? = some k → ds[i]? = some d → (itemsD ks ds)[i]? = some (.tup [keyD k, d])
  | [], ds, i, k, d, h, _ => by simp at h
  | k :: ks, [], i, k', d, _, h => by simp at h
  | k :: ks, e :: ds, 0, k', d, h1, h2 => by simp at h1 h2; subst h1 h2; rfl
  | k :: ks, e :: ds, i + 1, k', d, h1, h2 => by simp only [itemsD, List.getElem?_cons_succ]; exact itemsD_get (by simpa using h1) (by simpa using h2)
section
variable {X : Cx} {W : WX} {M Rs : List Nat} {e tg : Expr} {ca : CE} {pos p : Pos}
theorem walk_keys {d : Addr} {o : Obj} {kvs : List (Key × V)} : Walk (Itk d o kvs) kvs.length (fun H => H d = some (.frz o (.dK kvs))) (fun i H x H' => H' = H ∧ ∃ k v, kvs[i]? = some (k, v) ∧ x = kV k) :=
  ⟨fun i _ hi q => ⟨q, hi⟩, fun _ q => ⟨q, Nat.le_refl _⟩, fun _ _ _ _ _ _ y => y⟩
theorem walk_items {d : Addr} {o : Obj} {kvs : List (Key × V)} : Walk (Iti d o kvs) kvs.length (fun H => H d = some (.frz o (.dK kvs))) (fun i H x H' => ∃ T k v, kvs[i]? = some (k, v) ∧ x = .ref T ∧ H T = none ∧ H' = L2.upd H T (.tup [kV k, v])) :=
  ⟨fun i _ hi q => ⟨q, hi⟩, fun _ q => ⟨q, Nat.le_refl _⟩, fun _ _ _ _ _ _ y => y⟩
theorem si_keys (h : SB X W M Rs e ca) : SI X W M Rs tg e (iKeysD ca) := by
  obtain ⟨t, pe, q⟩ := h.go
  refine ⟨iKeys t, pi_keys pe, fun C fs env σ H tf Q hC G po => ?_⟩
  show t σ H fun x H1 => _
  refine q C fs env σ H tf _ hC G ?_
  unfold iKeysD at po
  cases e1 : ca env with
  | err => rw [e1] at po; exact po
  | ex x env' => rw [e1] at po; exact po
  | ok d env1 =>
    rw [e1] at po
    intro v fs1 H1 fp own G1 s1 r1 i1
    cases d with
    | dct g ks ds =>
      cases g with
      | k =>
        have po' : PostI W C M Rs tf fs env σ H Q (.ok (ks.map keyD) env1) := po
        obtain ⟨a, kvs, f1, f2, rfl, ⟨⟨o, hz⟩, _⟩, ⟨hks, _⟩, _⟩ := r1
        refine ⟨a, o, rfl, .inl ⟨kvs, hz, po' _ fs1 H1 fp own G1 s1 ⟨?_⟩ i1⟩⟩
        have hl : (ks.map keyD).length = kvs.length := by rw [← hks]; simp
        rw [hl]
        refine Walk.mono walk_keys (fun H2 h2 => h2.2.1.z _ _ _ hz) fun i H2 x H3 hi h2 ⟨e1, k, w, e2, e3⟩ => ?_
        subst e1 e3
        exact ⟨.refl _, keyD k, by rw [← hks]; simp [e2], rep_keyD k⟩
      | _ => exact po.elim
    | _ => exact po.elim
theorem si_items {elts : List Expr} {kk : Nat} {tpos apos cpos : Pos} (h : SB X W M Rs e ca) (hbase : attributeBase e "items" X.env (eval e X.env) = eval e X.env) (hline : (apos.endLine == cpos.line) = true) :
    SI X W M Rs (.Tuple elts kk tpos) (.Call (.Attribute e "items" apos) [] [] cpos) (iItemsD ca) := by
  obtain ⟨t, pe, q⟩ := h.go
  refine ⟨iItems t, pi_items pe hbase hline, fun C fs env σ H tf Q hC G po => ?_⟩
  show t σ H fun x H1 => _
  refine q C fs env σ H tf _ hC G ?_
  unfold iItemsD at po
  cases e1 : ca env with
  | err => rw [e1] at po; exact po
  | ex x env' => rw [e1] at po; exact po
  | ok d env1 =>
    rw [e1] at po
    intro v fs1 H1 fp own G1 s1 r1 i1
    cases d with
    | dct g ks ds =>
      cases g with
      | k =>
        have po' : PostI W C M Rs tf fs env σ H Q (if imms ds then .ok (itemsD ks ds) env1 else .err) := po
        by_cases hi : imms ds = true
        · rw [if_pos hi] at po'
          obtain ⟨a, kvs, f1, f2, rfl, ⟨⟨o, hz⟩, _⟩, ⟨hks, _⟩, rz, _⟩ := r1
          have z := rz.imm hi
          subst z
          refine ⟨a, o, kvs, rfl, hz, po' _ fs1 H1 fp own G1 s1 ⟨?_⟩ i1⟩
          have hl : ks.length = kvs.length := by rw [← hks]; simp
          have hl2 : ks.length = ds.length := by
            have := reps_length rz
            rw [this, hl]; simp
          rw [itemsD_len hl2, hl]
          refine Walk.mono walk_items (fun H2 h2 => h2.2.1.z _ _ _ hz) fun i H2 x H3 hi3 h2 ⟨T, k, w, e2, e3, e4, e5⟩ => ?_
          subst e3 e5
          have le := Le.new (o := .tup [kV k, w]) e4
          obtain ⟨d, d1, d2⟩ := reps_imm_get (rz.keep (fun b hb => nomatch hb) h2.2.1) hi (i := i) (x := w) (by simp [e2])
          refine ⟨le, .tup [keyD k, d], itemsD_get (by rw [← hks]; simp [e2]) d1, T, [kV k, w], rfl, SqT.of upd_same, ?_⟩
          exact ⟨kV k, [w], [], [], rfl, rep_keyD k, ⟨w, [], [], [], rfl, d2.le le, ⟨rfl, rfl⟩, rfl⟩, rfl⟩
        · rw [if_neg hi] at po'; exact po'.elim
      | _ => exact po.elim
    | _ => exact po.elim
end
@[simp] theorem e_keysD {ca : CE} {env : Env} : iKeysD ca env = (ca env).bind fun d env => match d with
  | .dct .k ks _ => .ok (ks.map keyD) env
  | _ => .err := (rfl)
@[simp] theorem e_itemsD {ca : CE} {env : Env} : iItemsD ca env = (ca env).bind fun d env => match d with
  | .dct .k ks ds => if imms ds then .ok (itemsD ks ds) env else .err
  | _ => .err := (rfl)
end VS

set_option maxRecDepth 100000
namespace VS
open PySem L2 SeqAt PySem.Spec PyProof.Rows
/-! ### the same within an expression -/
def lendEndE (i : Nat) (d : D) (js : List Nat) : R D → R D
  | .ok r env => if r.nol && okN js env then .ok r (env.set i (some d)) else .err
  | _ => .err
def cLend (i : Nat) (js : List Nat) (c : CE) : CE := fun env => match env[i]? with
  | some (some d) => lendEndE i d js (c (env.set i (some d.lend)))
  | _ => .err
def lockEndE (i : Nat) (d : D) (js : List Nat) : R D → R D
  | .ok r env => if r.nok && okK js env then .ok r (env.set i (some d)) else .err
  | _ => .err
def cLock (i : Nat) (p : Option (Str × Str)) (js : List Nat) (c : CE) : CE := fun env => match env[i]? with
  | some (some d) => match lockD p d with
    | some d' => lockEndE i d js (c (env.set i (some d')))
    | none => .err
  | _ => .err
section
variable {X : Cx} {W : WX} {M : List Nat} {e : Expr} {c : CE}
theorem so_lend (i : Nat) (js : List Nat) (h : SO X W M e c) (hM : i ∉ M := by decide) (hj : ∀ j ∈ M, j ∈ js := by decide) : SO X W M e (cLend i js c) := by
  obtain ⟨t, p, q⟩ := h.go
  have hj' : ∀ j, j ∈ M ∨ j ∈ ([] : List Nat) → j ∈ js := fun j z => z.elim (hj j) fun z => nomatch z
  refine ⟨t, p, fun C fs env σ H tf Q hC G po => ?_⟩
  unfold cLend at po
  cases e1 : env[i]? with
  | none => rw [e1] at po; exact po.elim
  | some od =>
  cases od with
  | none => rw [e1] at po; exact po.elim
  | some d =>
  rw [e1] at po
  simp only at po
  obtain ⟨En, hd, G1⟩ := lend_in G e1
  refine q (ctxL C fs i tf H) (fs.set i []) (env.set i (some d.lend)) σ H tf Q hC G1 ?_
  cases e2 : c (env.set i (some d.lend)) with
  | err => rw [e2] at po; exact po.elim
  | ex x env' => rw [e2] at po; exact po.elim
  | ok r env' =>
    rw [e2] at po
    intro v fs' H' fp G' s rr
    cases ok : (r.nol && okN js env') with
    | false => simp only [lendEndE, ok] at po; exact po.elim
    | true =>
      simp only [lendEndE, ok, if_true] at po
      obtain ⟨o1, o2⟩ := Bool.and_eq_true_iff.mp ok
      obtain ⟨a, b⟩ := lend_out (Vs := []) G e1 hM (fun z => nomatch z) hj' G' s.ss o2
      exact po _ _ _ _ a b.s (Rep.leave (C := C) (C' := ctxL C fs i tf H) rfl rfl rfl rr o1)
theorem pe_or {t1 t2 : TE} (h1 : PE X e t1) (h2 : PE X e t2) : PE X e (fun σ H Q => t1 σ H Q ∨ t2 σ H Q) :=
  ⟨fun pins s σ H Q I hw => hw.elim (h1.run pins s σ H Q I) (h2.run pins s σ H Q I)⟩
theorem so_lock (i : Nat) (p : Option (Str × Str)) (js : List Nat) (h : SO X W M e c) (hM : i ∉ M := by decide) (hj : ∀ j ∈ M, j ∈ js := by decide) : SO X W M e (cLock i p js c) := by
  obtain ⟨t, pe, q⟩ := h.go
  have hj' : ∀ j, j ∈ M ∨ j ∈ ([] : List Nat) → j ∈ js := fun j z => z.elim (hj j) fun z => nomatch z
  refine ⟨_, pe_or pe (pe_lock pe), fun C fs env σ H tf Q hC G po => ?_⟩
  unfold cLock at po
  cases e1 : env[i]? with
  | none => rw [e1] at po; exact po.elim
  | some od =>
  cases od with
  | none => rw [e1] at po; exact po.elim
  | some d =>
  rw [e1] at po
  simp only at po
  cases hl : lockD p d with
  | none => rw [hl] at po; exact po.elim
  | some d' =>
  rw [hl] at po
  simp only at po
  obtain ⟨v, ev, r⟩ := G.rep i d e1
  obtain ⟨fe, a, kvs, h0, tr⟩ := lock_at hl r
  have frz : (∃ o, H a = some (.frz o (.dK kvs))) ∨ H a = some (.dK kvs) := by
    rcases h0.1 with z | ⟨o, z⟩
    · rcases G.fr a _ z h0.2 with q | ⟨_, _, ob, q⟩
      · exact .inr q
      · exact .inl ⟨ob, q⟩
    · rcases G.fr a _ z h0.2 with q | ⟨_, mu, ob, q⟩
      · exact .inl ⟨o, q⟩
      · exact mu.elim
  rw [fe] at r
  rcases frz with hf | hH
  · refine .inl (q C fs (env.set i (some d')) σ H tf Q hC (G.relab e1 ev (by rw [fe]; exact tr C H rfl (fun _ _ z => z) (fun _ _ z => z) ⟨hf, rfl⟩)) ?_)
    cases e2 : c (env.set i (some d')) with
    | err => rw [e2] at po; exact po.elim
    | ex x env' => rw [e2] at po; exact po.elim
    | ok r1 env' =>
      rw [e2] at po
      intro w fs' H' fp G' s rr
      cases ok : (r1.nok && okK js env') with
      | false => simp only [lockEndE, ok] at po; exact po.elim
      | true =>
        simp only [lockEndE, ok, if_true] at po
        obtain ⟨a1, b1⟩ := relab_out (Vs := []) G e1 hM (fun z => nomatch z) G' s.ss
        exact po _ _ _ _ a1 b1.s rr
  · refine .inr ⟨a, .dK kvs, hH, trivial, fun od => ?_⟩
    have G1 := lock_in (od := od) (d' := d') G e1 ev fe hH h0 (tr (ctxK C a) _ rfl (fun _ _ z => z.lockIn hH (fun q => nomatch q)) (fun _ _ z => nd_lock hH z (fun q => nomatch q)) ⟨⟨od, upd_same⟩, rfl⟩)
    refine q (ctxK C a) fs (env.set i (some d')) σ _ tf _ hC G1 ?_
    cases e2 : c (env.set i (some d')) with
    | err => rw [e2] at po; exact po.elim
    | ex x env' => rw [e2] at po; exact po.elim
    | ok r1 env' =>
      rw [e2] at po
      intro w fs' H' fp G' s rr
      cases ok : (r1.nok && okK js env') with
      | false => simp only [lockEndE, ok] at po; exact po.elim
      | true =>
        simp only [lockEndE, ok, if_true] at po
        obtain ⟨o1, o2⟩ := Bool.and_eq_true_iff.mp ok
        obtain ⟨z1, a1, b1⟩ := lock_out (Vs := []) G e1 hH h0 hM (fun z => nomatch z) hj' G' s.ss o2
        exact ⟨z1, po _ _ _ _ a1 b1.s (rr.unlock z1 o1)⟩
end
@[simp] theorem e_cLend (i : Nat) (js : List Nat) (c : CE) (env : Env) : cLend i js c env = match env[i]? with
  | some (some d) => lendEndE i d js (c (env.set i (some d.lend)))
  | _ => .err := (rfl)
@[simp] theorem e_cLock (i : Nat) (p : Option (Str × Str)) (js : List Nat) (c : CE) (env : Env) : cLock i p js c env = match env[i]? with
  | some (some d) => match lockD p d with
    | some d' => lockEndE i d js (c (env.set i (some d')))
    | none => .err
  | _ => .err := (rfl)
end VS

set_option maxRecDepth 100000
namespace VS
open PySem L2 SeqAt PySem.Spec PyProof.Rows
/-! ### defs that are called where no repr runs: they may show data -/
structure FnG (P : Program) (w : World) (K : PySem.W.Frag) (mg : Str → Option Value) (base : Heap) (k : Nat) (f : Addr) (fd : FuncData) (ps : List Str) (sp : Sp) : Prop where
  len : ∀ vs H Q E, sp vs H Q E → vs.length = ps.length
  go : ∀ (B : Around) (fr : List PySem.Env) (t : Shared) (H : Hp) (as : Args) (us : List Value) (vs : List V) (Q : VK) (E : XK), Room k B → B.guards = some [] → Env0 P w K mg base B fr t H → BindsTo t fd as (ps.zip us) → Vals vs us → sp vs H Q E →
    codeAny (model P w) B (.call (.ref f) as) (CR (L2.CX P w) fr P w H t Q E) t
section
variable {P : Program} {w : World} {K : PySem.W.Frag} {mg : Str → Option Value} {base : Heap}
theorem FnG.mono {j k : Nat} {f : Addr} {fd : FuncData} {ps : List Str} {sp : Sp} (F : FnG P w K mg base j f fd ps sp) (h : j ≤ k) : FnG P w K mg base k f fd ps sp :=
  ⟨F.len, fun B fr t H as us vs Q E hr hg => F.go B fr t H as us vs Q E (hr.mono h) hg⟩
theorem FnG.imp {k : Nat} {f : Addr} {fd : FuncData} {ps : List Str} {sp sp' : Sp} (F : FnG P w K mg base k f fd ps sp) (h : ∀ vs H Q E, sp' vs H Q E → sp vs H Q E) : FnG P w K mg base k f fd ps sp' :=
  ⟨fun vs H Q E q => F.len vs H Q E (h _ _ _ _ q), fun B fr t H as us vs Q E hr hg e0 hb hv q => F.go B fr t H as us vs Q E hr hg e0 hb hv (h _ _ _ _ q)⟩
theorem fng_of {k : Nat} {f : Addr} {nm qual : Str} {ar : Arguments} {body : List Stmt} {sco : Scope} {dV kV doc pm cdv ct oc : Value} {an od : Option Addr} {osl : Array (Option Value)} {N ps : List Str} {sp : Sp}
    (lk : K.lookup f = some ⟨oc, od, .func (PySem.W.fnOf nm qual ar body sco dV kV doc pm an cdv ct), osl⟩) (hcd : PySem.W.codeIn K cdv qual = true) (S : FnScope N ps sco) (len : ∀ vs H Q E, sp vs H Q E → vs.length = ps.length)
    (hbd : ∀ (B : Around) (fr : List PySem.Env) (t : Shared) (H : Hp) (vs : List V) (Q : VK) (E : XK), Room k (B.deeper (envOfC qual sco t.heap.objs.size f cdv)) → B.guards = some [] → sp vs H Q E →
      ∃ rd, PSs (cxOf (L2.CX P w) P w K mg base N qual sco f cdv B fr t H E) body rd ∧ rd { nx := fun _ H' => Q .non H', rt := Q } (start N vs) H) :
    FnG P w K mg base (k + 1) f (PySem.W.fnOf nm qual ar body sco dV kV doc pm an cdv ct) ps sp := by
  refine ⟨len, fun B fr t H as us vs Q E hr hgd e0 hb rv hsp => ?_⟩
  have hlen := len _ _ _ _ hsp
  have kin : K.In t.heap := e0.mod.kin.keeps fun b o e => (e0.bs b o e).1
  have nolim : t.heap.NoLimit := e0.mod.nolimit.keeps fun b o e => (e0.bs b o e).1
  have kinds : ∀ y ∈ ps.zip us, sco.names.lookup y.1 = some .local ∨ (sco.names.lookup y.1 = some .cell ∧ ((cellsFrom (t.heap.objs.size + 1) sco.names []).lookup y.1).isSome = true) := fun ⟨n, v⟩ hy =>
    (S.par n (List.of_mem_zip hy).1).elim .inl fun q => .inr ⟨q, PySem.W.cellsFrom_some _ _ _ (.inl q)⟩
  refine codeAny_call_function hr.depth (kin _ _ lk) rfl S.co S.gen rfl (PySem.W.codeRec_of kin hcd) (hb _ _ _ _ (wpAny_newFunctionEnv_cells S.kind kinds fun env he t1 x => ?_))
  subst he
  refine ⟨nolim.keeps x.toInCall.keep, codeAny_func ?_⟩
  obtain ⟨rd, hrd, hq⟩ := hbd B fr t H vs Q E (hr.deeper _) hgd hsp
  have I0 : Inv (cxOf (L2.CX P w) P w K mg base N qual sco f cdv B fr t H E) [] (start N vs) H t1 := inv_start S hr.hd e0 hlen rv x
  refine wpAny_mono (hrd.run [] t1 (start N vs) H _ I0 hq) (fun fl t' hs => ?_) fun e t' hs => hs
  cases fl with
  | ret u => exact let ⟨v, _, H', J, rr, q⟩ := hs; ⟨v, H', J.os, J.bare, J.base, J.hok, rr, q⟩
  | next => exact let ⟨_, H', J, q⟩ := hs; ⟨V.non, H', J.os, J.bare, J.base, J.hok, rfl, q⟩
  | brk => exact let ⟨_, _, _, q⟩ := hs; q.elim
  | cont => exact let ⟨_, _, _, q⟩ := hs; q.elim
theorem fn_okG {x qual : Str} {st : Stmt} {f : Addr} {fd : FuncData} {N ps : List Str} {k : Nat} {io : List Bool} {c : CS} {M Vs : List Nat}
    (F : Fun K x qual st f fd) (S : FnScope N ps (defScope st)) (hio : io.length = ps.length) (hv : djB (ioSlots 0 io) Vs = true)
    (hb : ∀ (cdv : Value) (A : Around) (outer : List PySem.Env) (s : Shared) (H : Hp) (E : XK), Room k (A.deeper (envOfC qual (defScope st) s.heap.objs.size f cdv)) → A.guards = some [] →
      SSs (cxOf (L2.CX P w) P w K mg base N qual (defScope st) f cdv A outer s H E) (fun cls d _ H => E cls d H) M Vs (defBody st) c) :
    FnG P w K mg base (k + 1) f fd ps (spF K mg io (fnRun N.length io c)) := by
  obtain ⟨oc, od, kV, doc, pm, an, cdv, ct, osl, rfl, lk, hcd⟩ := F.ex
  exact fng_of lk hcd S (fun vs H Q E h => by obtain ⟨Lk, ds, fps, hl, _⟩ := h; rw [hl, hio]) fun B fr t H vs Q E hr hg hsp => fn_core rfl rfl S hio hv (hb cdv B fr t H E hr hg) hsp
end
/-- a def of the module that comes to φ, called where no repr runs -/
def FdG (P : Program) (w : World) (K : PySem.W.Frag) (mg : Str → Option Value) (base : Heap) (k : Nat) (x : Str) (ps : List Str) (io : List Bool) (φ : List D → FR) : Prop :=
  ∃ (f : Addr) (fd : FuncData), FnG P w K mg base k f fd ps (spF K mg io φ) ∧ mg x = some (.ref f) ∧ PySem.W.keepIn K (.ref f) = true ∧ Binds K fd ps []
theorem fdg_mk {P : Program} {w : World} {K : PySem.W.Frag} {mg : Str → Option Value} {base : Heap} {k : Nat} {x : Str} {st : Stmt} {f : Addr} {fd : FuncData} {ps : List Str} {io : List Bool} {φ : List D → FR} (F : Fun K x x st f fd) (hm : mg x = some (.ref f)) (hb : Binds K fd ps [])
    (h : FnG P w K mg base k f fd ps (spF K mg io φ)) : FdG P w K mg base k x ps io φ := ⟨f, fd, h, hm, F.kp, hb⟩
theorem FdG.mono {P : Program} {w : World} {K : PySem.W.Frag} {mg : Str → Option Value} {base : Heap} {j k : Nat} {x : Str} {ps : List Str} {io : List Bool} {φ : List D → FR} (F : FdG P w K mg base j x ps io φ) (h : j ≤ k) : FdG P w K mg base k x ps io φ :=
  let ⟨f, fd, G, a, b, c⟩ := F
  ⟨f, fd, G.mono h, a, b, c⟩
section
variable {X : Cx} {W : WX} {M Rs : List Nat} {e : Expr} {es : List Expr} {pos : Pos} {cr : Env → R (List AV)} {io : List Bool}
theorem run_g {k : Nat} {f : Addr} {fd : FuncData} {ps : List Str} {sp : Sp} {E : L2.St → XK} {pins : List (Addr × Obj)} {σ : L2.St} {H : Hp} {s : Shared} {Q : VK} {us : List Value} {vs : List V} (F : FnG X.prog X.w X.K X.mg X.base k f fd ps sp) (hr : Room k X.A) (hg : X.A.guards = some []) (hb : Binds X.K fd ps [])
    (hx : PassesAt (L2.CX X.prog X.w) X σ (E σ)) (I : Inv X pins σ H s) (rv : Vals vs us) (h : sp vs H Q (E σ)) : wpAny (model X.prog X.w) X.A (call (.ref f) us) (EP X pins σ Q) X.xe s := by
  have hlen : us.length = ps.length := by rw [← rv.length]; exact F.len _ _ _ _ h
  have bd := hb s us I.kIn (by rw [List.append_nil]; exact hlen)
  rw [List.append_nil] at bd
  refine wpAny_call (codeAny_mono (F.go X.A X.stack s H ⟨us, []⟩ us vs Q (E σ) hr hg I.env0 bd rv h) fun out t hq => ?_)
  match out, hq with
  | .error e, hq => exact hx pins H s e t I hq
  | .ok (.ret u), hq => exact I.after hq
  | .ok .next, hq => exact hq.elim
  | .ok .brk, hq => exact hq.elim
  | .ok .cont, hq => exact hq.elim
theorem so_callG {k : Nat} {x : Str} {ps : List Str} {φ : List D → FR} {pf : Pos} (F : FdG X.prog X.w X.K X.mg X.base k x ps io φ) (hr : Room k X.A) (hgd : X.A.guards = some []) (tk : Takes X W) (ha : SRI X W M Rs io (e :: es) cr) (hg : Gl X x := by rfl)
    (hdb : (x == ("__debug__" : Str)) = false := by decide) (he : starEach (e :: es) X.env = (false, eval e X.env) :: starEach es X.env := by rfl) (hpl : (backTo pos (starEach es X.env)).any (·.1) = false := by rfl) :
    SO X W M (.Call (.Name x pf) (e :: es) [] pos) (cCall φ cr) := by
  obtain ⟨f, fd, G, hm, hk, hb⟩ := F
  obtain ⟨t, p, q⟩ := ha.sr.go
  refine ⟨tCallS (spF X.K X.mg io φ) (WE W) t, ⟨fun pins s σ H Q I h => wpAny_Call_Name_kw (ld_glob I hg hm (PySem.W.callWith_K (h₀ := X.base) I.ok.mod.kin hk (thn (p.run pos pins s σ H _ I h) fun us s1 ⟨vs, H1, I1, r, q1⟩ => ⟨I1.kIn, run_g G hr hgd hb (passAt tk σ) I1 r q1⟩) he hpl) hdb)⟩, ?_⟩
  exact call_go (E := WE W) (fun _ _ _ _ h => h) ha.shape q (by unfold djB; simp)
end
/-! ### repr(x), str(x) of data -/
mutual
theorem py_nodict : ∀ {d : D} {y : PyData}, d.py = some y → y.hasDict = false
  | .non, y, h => by cases h; rfl
  | .bl b, y, h => by cases h; rfl
  | .int i, y, h => by cases h; rfl
  | .str s, y, h => by cases h; rfl
  | .tup ds, y, h => by
    obtain ⟨ys, hy, rfl⟩ := Option.map_eq_some_iff.mp h
    show PyData.hasDictAll ys = false
    exact pys_nodict hy
  | .lst g ds, y, h => by
    obtain ⟨ys, hy, rfl⟩ := Option.map_eq_some_iff.mp h
    show PyData.hasDictAll ys = false
    exact pys_nodict hy
  | .ty _, _, h => by cases h
  | .dct _ _ _, _, h => by cases h
  | .obj _ _ _ _, _, h => by cases h
theorem pys_nodict : ∀ {ds : List D} {ys : List PyData}, pys ds = some ys → PyData.hasDictAll ys = false
  | [], ys, h => by cases h; rfl
  | d :: ds, ys, h => by
    obtain ⟨y, hy, h⟩ := Option.bind_eq_some_iff.mp h
    obtain ⟨ys', hys, rfl⟩ := Option.map_eq_some_iff.mp h
    show (PyData.hasDict y || PyData.hasDictAll ys') = false
    rw [py_nodict hy, pys_nodict hys]; rfl
end
def shOk (y : PyData) : Bool := y.showable && decide (y.shown.length ≤ sizeLine) && decide (y.depth ≤ 100)
def pRepr : List D → Option D
  | [d] => match d.py with
    | some y => if shOk y then some (.str y.shown) else none
    | none => none
  | _ => none
def pStrI : List D → Option D
  | [.int i] => if i.natAbs.log2 < 1920 then some (.str (toString i)) else none
  | [.str z] => some (.str z)
  | _ => none
def pStr : List D → Option D
  | [.tup ds] => pRepr [.tup ds]
  | [.lst g ds] => pRepr [.lst g ds]
  | [.int i] => if i.natAbs.log2 < 1920 then some (.str (toString i)) else none
  | [.str z] => some (.str z)
  | _ => none
section
variable {X : Cx}
theorem od_repr {k : Nat} (hr : Room k X.A) (hg : X.A.guards = some []) : ODL X (.builtin "repr") pRepr := by
  intro pins s σ H xs us Q I rv ⟨C, ds, fx, d, hC, hF, rs, e, k⟩
  unfold pRepr at e
  split at e
  case h_2 => cases e
  rename_i d0
  split at e
  case h_2 => cases e
  rename_i y hy
  split at e
  case isFalse => cases e
  rename_i hk
  cases e
  simp only [shOk, Bool.and_eq_true, decide_eq_true_eq] at hk
  obtain ⟨v, rfl, r⟩ := reps1 rs
  obtain ⟨u, rfl, ru⟩ := vals1 rv
  obtain ⟨as, hrd, _⟩ := reads_rep I hC hF hy r ru
  have hun := hr.un
  have hnd := py_nodict hy
  have fin : ∀ tk, EP X pins σ Q (.str y.shown tk) { s with toks := s.toks + 1 } := fun tk => ⟨.str y.shown, H, I.tok _, ⟨tk, rfl⟩, k.here ⟨rfl, rfl⟩⟩
  cases hrd with
  | none => exact PySem.P.repr_of_none (fin _)
  | bool b => exact PySem.P.repr_of_bool (fin _)
  | int i t => exact PySem.P.repr_of_int (by simpa [PyData.showable] using hk.1.1) (fin _)
  | str z t =>
    exact PySem.P.repr_of_str (fin _) hk.1.2
  | list h1 h2 h3 h4 =>
    refine repr_of_reads' (.list h1 h2 h3 h4) hk.1.1 (PyData.noDict_hsm hnd) hg (by have := hk.2; omega) (fun _ _ e => e) (fun h' u tk hk' => ?_) hk.1.2
    exact ⟨.str _, H, I.kept (t' := tk) fun b o q => hk' b o q, ⟨_, rfl⟩, k.here ⟨rfl, rfl⟩⟩
  | tuple h1 h2 h3 h4 =>
    refine repr_of_reads' (.tuple h1 h2 h3 h4) hk.1.1 (PyData.noDict_hsm hnd) hg (by have := hk.2; omega) (fun _ _ e => e) (fun h' u tk hk' => ?_) hk.1.2
    exact ⟨.str _, H, I.kept (t' := tk) fun b o q => hk' b o q, ⟨_, rfl⟩, k.here ⟨rfl, rfl⟩⟩
  | dict h1 h2 h3 h4 h5 => simp [PyData.hasDict] at hnd
theorem od_strI : ODL X (.type "str") pStrI := by
  intro pins s σ H xs us Q I rv ⟨C, ds, fx, d, hC, hF, rs, e, k⟩
  unfold pStrI at e
  split at e
  · rename_i i
    split at e
    case isFalse => cases e
    rename_i hk
    cases e
    obtain ⟨v, rfl, r⟩ := reps1 rs
    obtain ⟨rfl, _⟩ := r
    exact call_str_int pins s σ H _ us Q I rv ⟨i, rfl, hk, k.here ⟨rfl, rfl⟩⟩
  · rename_i z
    cases e
    obtain ⟨v, rfl, r⟩ := reps1 rs
    obtain ⟨rfl, _⟩ := r
    exact SkE.call_str_str pins s σ H _ us Q I rv ⟨z, rfl, k.here ⟨rfl, rfl⟩⟩
  · cases e
theorem od_str {k : Nat} (hr : Room k X.A) (hg : X.A.guards = some []) : ODL X (.type "str") pStr := by
  intro pins s σ H xs us Q I rv ⟨C, ds, fx, d, hC, hF, rs, e, k⟩
  have leaf := od_strI pins s σ H xs us Q I rv
  have gen : ∀ d0, ds = [d0] → pRepr [d0] = some d → (∃ ys, d0.py = some (.list ys)) ∨ (∃ ys, d0.py = some (.tuple ys)) → wpAny (model X.prog X.w) X.A (call (.type "str") us) (EP X pins σ Q) X.xe s := by
    intro d0 hd e1 hs
    subst hd
    unfold pRepr at e1
    simp only at e1
    split at e1
    case h_2 => cases e1
    rename_i y hy
    split at e1
    case isFalse => cases e1
    rename_i hk
    cases e1
    simp only [shOk, Bool.and_eq_true, decide_eq_true_eq] at hk
    obtain ⟨v, rfl, r⟩ := reps1 rs
    obtain ⟨u, rfl, ru⟩ := vals1 rv
    obtain ⟨as, hrd, _⟩ := reads_rep I hC hF hy r ru
    have hun := hr.un
    have hnd := py_nodict hy
    cases hrd with
    | list h1 h2 h3 h4 =>
      refine str_of_reads (.list h1 h2 h3 h4) hk.1.1 (PyData.noDict_hsm hnd) hg (by have := hk.2; omega) (fun _ _ e => e) (fun h' u tk hk' => ?_) hk.1.2
      exact ⟨.str _, H, I.kept (t' := tk) fun b o q => hk' b o q, ⟨_, rfl⟩, k.here ⟨rfl, rfl⟩⟩
    | tuple h1 h2 h3 h4 =>
      refine str_of_reads (.tuple h1 h2 h3 h4) hk.1.1 (PyData.noDict_hsm hnd) hg (by have := hk.2; omega) (fun _ _ e => e) (fun h' u tk hk' => ?_) hk.1.2
      exact ⟨.str _, H, I.kept (t' := tk) fun b o q => hk' b o q, ⟨_, rfl⟩, k.here ⟨rfl, rfl⟩⟩
    | _ => rcases hs with ⟨ys, z⟩ | ⟨ys, z⟩ <;> rw [hy] at z <;> cases z
  unfold pStr at e
  split at e
  · rename_i ds0
    refine gen _ rfl e (.inr ?_)
    unfold pRepr at e
    simp only at e
    split at e
    · rename_i y hy
      obtain ⟨ys, _, rfl⟩ := Option.map_eq_some_iff.mp hy
      exact ⟨ys, hy⟩
    · cases e
  · rename_i g ds0
    refine gen _ rfl e (.inl ?_)
    unfold pRepr at e
    simp only at e
    split at e
    · rename_i y hy
      obtain ⟨ys, _, rfl⟩ := Option.map_eq_some_iff.mp hy
      exact ⟨ys, hy⟩
    · cases e
  · exact leaf ⟨C, _, fx, d, hC, hF, rs, e, k⟩
  · exact leaf ⟨C, _, fx, d, hC, hF, rs, e, k⟩
  · cases e
end
/-! ### the law's end, over a def that may show data -/
theorem law_impG {P : Program} {w : World} {K : PySem.W.Frag} {mg : Str → Option Value} {base : Heap} {k : Nat} {f : Addr} {fd : FuncData} {x : Str} {φ : List D → FR} (F : FnG P w K mg base k f fd [x] (spF K mg [false] φ))
    (h : ∀ ns : List Int, ns.length ≤ 63 → (∀ z ∈ ns, Builtin.Int.intBits z ≤ 1048576) → φ [.lst .l (ns.map D.int)] = .ok (.bl true) []) : FnG P w K mg base k f fd [x] (spLaw K) := by
  refine F.imp fun vs H Q E ⟨a, ns, e, sq, h1, h2, q⟩ => ?_
  subst e
  refine ⟨[], [.lst .l (ns.map D.int)], [[]], rfl, ⟨_, [], _, [], [], [], rfl, rfl, rfl, ⟨a, ns.map V.int, [], [], rfl, ⟨?_, rfl⟩, reps_ints ns, .inr rfl, rfl⟩, .inr rfl, ⟨rfl, rfl, rfl⟩⟩, by simp, (fun _ z => nomatch z), ?_⟩
  · exact sq.elim (fun z => .inl ⟨z, by simp⟩) fun z => .inr ⟨_, rfl, z⟩
  · rw [h ns h1 h2]
    intro v H' fp fps _ _ r _ _ _
    obtain ⟨rfl, _⟩ := r
    exact q H'
section
variable {P : Program} {w : World} {K : PySem.W.Frag} {mg mb : Str → Option Value} {k : Nat} {fa a : Addr} {fd : FuncData} {x : Str} {t : Shared} {vs : List Value} {ns : List Int}
theorem core_g {H : Hp} (kin : K.In t.heap) (hns : t.heap.Ns mainGlobals mg) (hb : t.heap.Ns builtinsNs mb) (hbb : ∀ x : Str, x ≠ "__name__" → mb x = bootBuiltins x) (nolim : t.heap.NoLimit) (hg : t.gens = #[])
    (ha : t.heap.get? a = some { cls := .type "list", data := .seq vs.toArray }) (hr : Room k callerA) (F : ∀ base : Heap, K.In base → base.Ns mainGlobals mg → FnG P w K mg base k fa fd [x] (spLaw K))
    (hbind : ∀ (s : Shared) (u : Value), BindsTo s fd ⟨[u], []⟩ [(x, u)]) (hl : ns.length ≤ 63) (hz : ∀ z ∈ ns, Builtin.Int.intBits z ≤ 1048576)
    (hO : Only H) (hS : SqL K H a (ns.map V.int)) (hok : HOk P w H t.heap) (hA : ∀ b, H b ≠ none → b = a) (hK : H a ≠ none → K.lookup a = none) :
    codeAny (model P w) callerA (.call (.ref fa) ⟨[.ref a], []⟩) (fun r t' => r = .ok (.ret (.bool true)) ∧ OldK t.heap t'.heap ∧ t'.os = t.os ∧ AllBare t'.gens) t := by
  have only : ∀ {b : Addr} {u : HO}, H b = some u → b = a := fun {b u} e => hA b fun z => by rw [z] at e; cases e
  have notA : ∀ {b : Addr} {o : Obj} {es : Array DictEntry} {ep : Nat}, t.heap.get? b = some o → o.data = .dict es ep → H b = none := fun {b o es ep} e d => by
    rcases hH : H b with _ | u
    · rfl
    · rw [only hH, ha] at e
      cases e
      exact nomatch (show Data.seq vs.toArray _ = Data.dict es ep from d)
  have ns' : ∀ {b : Addr} {m : Str → Option Value}, t.heap.Ns b m → (hidT t.heap H).Ns b m := fun ⟨o, es, ep, e, d, r⟩ => ⟨o, es, ep, hidT_get e (notA e d), d, r⟩
  have kin' : K.In (hidT t.heap H) := fun b o e => hidT_get (kin b o e) (by
    rcases hH : H b with _ | u
    · rfl
    · have eb := only hH
      rw [eb] at hH e
      rw [hK (by rw [hH]; exact nofun)] at e
      cases e)
  have mo : Mod K mg (hidT t.heap H) := ⟨kin', ns' hns, ⟨mb, ns' hb, hbb⟩, nolim.elim fun mc h => ⟨mc, ns' h.1, h.2⟩⟩
  have e0 : Env0 P w K mg (hidT t.heap H) callerA [] t H := ⟨rfl, mo, fun _ _ e => of_hidT e, Nat.le_of_eq (hidT_size _ _), trivial, fun b hb => (List.not_mem_nil (show b ∈ ([] : List Addr) from hb)).elim, hok, .of_eq hg⟩
  refine codeAny_mono ((F _ kin' (ns' hns)).go callerA [] t H ⟨[.ref a], []⟩ [.ref a] [.ref a] (fun v _ => v = .bl true) (fun _ _ _ => False) hr rfl e0 (hbind t (.ref a)) (.cons rfl .nil) ⟨a, ns, rfl, hS, hl, hz, fun _ => rfl⟩) fun out t' h => ?_
  match out, h with
  | .error e, h =>
    obtain ⟨_, _, _, _, _, _, _, _, _, _, _, _, no⟩ := h
    exact no.elim
  | .ok .next, h => exact h.elim
  | .ok .brk, h => exact h.elim
  | .ok .cont, h => exact h.elim
  | .ok (.ret u), h =>
    obtain ⟨v, H', os, bare, un, hok', ru, q⟩ := h
    have ev : v = .bl true := q
    subst ev
    obtain rfl : u = Value.bool true := ru
    refine ⟨rfl, OldK.of_keep fun b o e => ?_, os, bare⟩
    rcases hH : H b with _ | u
    · exact un.keep b o e hH (fun z => (List.not_mem_nil (show b ∈ ([] : List Addr) from z)).elim) (by simp)
    · rcases hO b with z | ⟨ob, xs, z⟩
      · rw [hH] at z; cases z
      · obtain ⟨e1, _⟩ := hok b _ z
        obtain ⟨e2, _⟩ := hok' b _ (un.frzs b ob _ z)
        rw [e] at e1
        cases e1
        exact e2
theorem call_g (kin : K.In t.heap) (hns : t.heap.Ns mainGlobals mg) (hb : t.heap.Ns builtinsNs mb) (hbb : ∀ x : Str, x ≠ "__name__" → mb x = bootBuiltins x) (nolim : t.heap.NoLimit) (hg : t.gens = #[])
    (ha : t.heap.get? a = some { cls := .type "list", data := .seq vs.toArray }) (hi : IntsAre vs ns) (hr : Room k callerA) (F : ∀ base : Heap, K.In base → base.Ns mainGlobals mg → FnG P w K mg base k fa fd [x] (spLaw K))
    (hbind : ∀ (s : Shared) (u : Value), BindsTo s fd ⟨[u], []⟩ [(x, u)]) (hl : ns.length ≤ 63) (hz : ∀ z ∈ ns, Builtin.Int.intBits z ≤ 1048576) :
    codeAny (model P w) callerA (.call (.ref fa) ⟨[.ref a], []⟩) (fun r t' => r = .ok (.ret (.bool true)) ∧ OldK t.heap t'.heap ∧ t'.os = t.os ∧ AllBare t'.gens) t := by
  have rv := vals_ints hi
  have room : ns.length ≤ sizeLine := Nat.le_trans hl (by decide)
  cases hk : K.lookup a with
  | some o =>
    have e := kin a o hk
    rw [ha] at e
    cases e
    refine core_g (H := fun _ => none) kin hns hb hbb nolim hg ha hr F hbind hl hz (fun _ => .inl rfl) (.inr ⟨_, vs.toArray, _, hk, rfl, rfl, rfl, ?_, by simpa using rv⟩) (fun b u z => nomatch (show (none : Option HO) = some u from z)) (fun b z => absurd rfl z) fun z => absurd rfl z
    rw [List.size_toArray, hi.length]; exact room
  | none =>
    let o0 : Obj := { cls := .type "list", data := .seq vs.toArray }
    let H0 : Hp := fun b => if b = a then some (.frz o0 (.lst (ns.map V.int))) else none
    have yes : H0 a = some (.frz o0 (.lst (ns.map V.int))) := if_pos rfl
    have no : ∀ b, b ≠ a → H0 b = none := fun b hb => if_neg hb
    refine core_g (H := H0) kin hns hb hbb nolim hg ha hr F hbind hl hz (fun b => ?_) (.inl (.inr ⟨o0, yes⟩)) (fun b u z => ?_) (fun b z => Classical.byContradiction fun hb => z (no b hb)) fun _ => hk
    · by_cases hb : b = a
      · rw [hb]; exact .inr ⟨_, _, yes⟩
      · exact .inl (no b hb)
    · by_cases hb : b = a
      · rw [hb, yes] at z
        cases z
        rw [hb]
        exact ⟨ha, by rw [List.length_map]; exact room, vs, _, rv, ha⟩
      · rw [no b hb] at z; cases z
end
theorem walkG {l : PySem.W.OpenLaw} {k : Nat} {q : Program} {loose : List Str} {XP : (Str → Option Value) → Heap → Prop} {YP : World → Heap → Prop} {d : DefRec} {K : Params → PySem.W.Frag} {x : Str}
    (hn : l.most = some 63) (hdf : d.params.defaults = []) (hr : Room k callerA)
    (hY : ∀ (w : World) (h : Heap), YP w h → (K w.params).In h)
    (F : ∀ (w : World) (mg : Str → Option Value) (fa : Addr) (h : Heap), (K w.params).In h → h.Ns mainGlobals mg → mg d.name = some (.ref fa) →
      ∃ fd : FuncData, (∀ (s : Shared) (u : Value), BindsTo s fd ⟨[u], []⟩ [(x, u)]) ∧ ∀ base : Heap, (K w.params).In base → base.Ns mainGlobals mg → FnG l.prog w (K w.params) mg base k fa fd [x] (spLaw (K w.params))) :
    PySem.W.WalkO q loose XP YP l.row.toRowW d [] (fun f vs => PySem.call f vs) := by
  refine Att.attach_callB hn hdf fun w t0 t mg mb fa o pm cd doc a vs ns G Y ho hd hcd hmg hobj hints hlen hbits hgen => ?_
  obtain ⟨fd, hb, hF⟩ := F w mg fa _ (hY w _ Y) G.T.g hmg
  exact call_g (hY w _ Y) G.T.g G.T.b G.T.builtins G.T.nolimit hgen hobj hints hr hF hb hlen hbits
end VS

set_option maxRecDepth 100000
namespace VS
open PySem L2 SeqAt PySem.Spec PyProof.Rows
/-! ### (x, f(x)): the first is a name that the others look at; it is moved last -/
def cLate (i : Nat) (cs : CA) : CA := fun env => match env[i]? with
  | some (some d) => (cs env).bind fun ds env => .ok (d :: ds) (if d.imm then env else env.set i none)
  | _ => .err
section
variable {X : Cx} {W : WX} {M : List Nat} {es : List Expr} {cs : CA} {pos : Pos}
theorem sao_late (i : Nat) {x : Str} (hr : SAO X W M es cs) (hi : i ∉ M) (hN : X.N[i]? = some x) (hv : Vis X.env.scope x) (hd : (x == ("__debug__" : Str)) = false) (hcd : (x == ("__classdict__" : Str)) = false)
    (hs : starEach (.Name x pos :: es) X.env = (false, eval (.Name x pos) X.env) :: starEach es X.env) : SAO X W ([i] ++ M) (.Name x pos :: es) (cLate i cs) := by
  obtain ⟨t2, p2, q2⟩ := hr.go
  refine ⟨tCons (tVar i) t2, pa_cons (pe_var hN hv hd hcd) p2 hs, fun C fs env σ H tf Q hC G po => ?_⟩
  unfold cLate at po
  split at po
  case h_2 => exact po.elim
  rename_i d e1
  obtain ⟨v, e2, r⟩ := G.rep i d e1
  refine ⟨v, e2, q2 C fs env σ H tf _ hC G ?_⟩
  cases e3 : cs env with
  | err => rw [e3] at po; exact po
  | ex y env' =>
    rw [e3] at po
    exact fun cv dd fs' H' G' s => po cv dd fs' H' G' (s.weak (fun j hj => List.mem_append_right _ hj) fun _ z => z)
  | ok ds env2 =>
    rw [e3] at po
    intro vs fs2 H2 fp2 G2 s2 r2
    have ei : env2[i]? = some (some d) := (s2.e i hi).trans e1
    have rd : Rep C H2 d v (fs2.getD i []) := by rw [s2.f i hi]; exact r.keep (fun a ha => s2.h i hi a ha) s2.m
    have po2 : ∀ vs fs' H' fp, Good C fs' (if d.imm then env2 else env2.set i none) σ H' (fp ++ tf) → Step ([i] ++ M) tf fs env H fs' (if d.imm then env2 else env2.set i none) H' → Reps C H' (d :: ds) vs fp → Q vs H' := po
    by_cases hm : d.imm = true
    · simp only [hm, if_true] at po2
      have z := rd.imm hm
      rw [z] at rd
      exact po2 (v :: vs) fs2 H2 fp2 G2 (s2.weak (fun j hj => List.mem_append_right _ hj) fun _ z => z) ⟨v, vs, [], fp2, rfl, rd, r2, rfl⟩
    · simp only [hm] at po2
      have lt := G2.lt ei
      refine po2 (v :: vs) (fs2.set i []) H2 (fs2.getD i [] ++ fp2) (by rw [List.append_assoc]; exact G2.mv ei) ⟨s2.t, fun j hj => ?_, fun j hj => ?_, fun j hj a ha => s2.h j (fun z => hj (List.mem_append_right _ z)) a ha, s2.m⟩ ⟨v, vs, _, fp2, rfl, rd, r2, rfl⟩
      · rw [getD_set fs2 i j [] lt, if_neg (fun z => hj (by simp [z]))]
        exact s2.f j fun z => hj (List.mem_append_right _ z)
      · rw [if_neg (by simp), List.getElem?_set, if_neg (fun z => hj (by simp [z]))]
        exact s2.e j fun z => hj (List.mem_append_right _ z)
end
@[simp] theorem e_late (i : Nat) (cs : CA) (env : Env) : cLate i cs env = match env[i]? with
  | some (some d) => (cs env).bind fun ds env => .ok (d :: ds) (if d.imm then env else env.set i none)
  | _ => .err := (rfl)
/-! ### f(x, g(x)): the first is a name that f may change, the others may change it too -/
def aOwL (i : Nat) (cr : Env → R (List AV)) : Env → R (List AV) := fun env => match env[i]? with
  | some (some _) => (cr env).bind fun as env => match env[i]? with
    | some (some d) => .ok (.ow d (some i) :: as) (env.set i none)
    | _ => .err
  | _ => .err
theorem AOk.fs {C : Ctx} {H : Hp} {σ : L2.St} {Ms Rs : List Nat} {fs fs' : FPs} {ownr : List Addr} (h : ∀ r ∈ Rs, ∀ a ∈ fs.getD r [], a ∈ fs'.getD r []) : ∀ {avs vs fps}, AOk C H σ Ms Rs fs ownr avs vs fps → AOk C H σ Ms Rs fs' ownr avs vs fps
  | [], _, _, x => x
  | .ro d :: as, vs, fps, ⟨v, vs', fp, fps', e1, e2, r, i, x⟩ => ⟨v, vs', fp, fps', e1, e2, r, fun a ha => (i a ha).elim .inl fun ⟨r, hr, z⟩ => .inr ⟨r, hr, h r hr a z⟩, AOk.fs h x⟩
  | .ow d wb :: as, vs, fps, ⟨v, vs', fp, fps', e1, e2, r, i, x⟩ => ⟨v, vs', fp, fps', e1, e2, r, i, AOk.fs h x⟩
section
variable {X : Cx} {W : WX} {M Rs : List Nat} {es : List Expr} {cr : Env → R (List AV)} {io : List Bool} {pos : Pos}
theorem sri_late (i : Nat) {x : Str} (hr : SRI X W M Rs io es cr) (hi : i ∉ Rs) (hN : X.N[i]? = some x) (hv : Vis X.env.scope x) (hd : (x == ("__debug__" : Str)) = false) (hcd : (x == ("__classdict__" : Str)) = false)
    (hs : starEach (.Name x pos :: es) X.env = (false, eval (.Name x pos) X.env) :: starEach es X.env) : SRI X W ([i] ++ M) Rs (true :: io) (.Name x pos :: es) (aOwL i cr) := by
  refine ⟨?_, fun env avs env' h => ?_⟩
  · obtain ⟨t2, p2, q2⟩ := hr.sr.go
    refine ⟨tCons (tVar i) t2, pa_cons (pe_var hN hv hd hcd) p2 hs, fun C fs env σ H tf Q hC G po => ?_⟩
    unfold aOwL at po
    split at po
    case h_2 => exact po.elim
    rename_i d0 e1
    obtain ⟨v, e2, r⟩ := G.rep i d0 e1
    refine ⟨v, e2, q2 C fs env σ H tf _ hC G ?_⟩
    cases e3 : cr env with
    | err => rw [e3] at po; exact po
    | ex y env' =>
      rw [e3] at po
      exact fun cv dd fs' H' G' s => po cv dd fs' H' G' (s.weak (fun j hj => List.mem_append_right _ hj) fun _ z => z)
    | ok as env2 =>
      rw [e3] at po
      intro vs fs2 H2 fps ownr G2 s2 r2
      simp only [R.bind] at po
      split at po
      case h_2 => exact po.elim
      rename_i d ei
      obtain ⟨v', e4, rd⟩ := G2.rep i d ei
      rw [e2] at e4
      cases e4
      have lt := G2.lt ei
      refine po (v :: vs) (fs2.set i []) H2 (fs2.getD i [] :: fps) ownr (by simpa using G2.mv ei) ⟨s2.t, fun j hj => ?_, fun j hj => ?_, fun j hj a ha => s2.h j (fun z => hj (List.mem_append_right _ z)) a ha, s2.m⟩ ⟨v, vs, _, fps, rfl, rfl, rd, ⟨e2, by simp⟩, ?_⟩
      · rw [getD_set fs2 i j [] lt, if_neg (fun z => hj (by simp [z]))]
        exact s2.f j fun z => hj (List.mem_append_right _ z)
      · rw [List.getElem?_set, if_neg (fun z => hj (by simp [z]))]
        exact s2.e j fun z => hj (List.mem_append_right _ z)
      · refine AOk.fs (fun r hr a ha => ?_) (r2.mono (fun j hj => List.mem_append_right _ hj) (fun _ z => z) fun _ z => z)
        rw [getD_set fs2 i r [] lt, if_neg (fun z : r = i => hi (by rw [← z]; exact hr))]; exact ha
  · unfold aOwL at h
    split at h
    · obtain ⟨as, e1, h1, h2⟩ := R.bind_ok h
      split at h2
      · cases h2
        simp [AV.io, hr.shape _ _ _ h1]
      · cases h2
    · cases h
end
@[simp] theorem e_aowL (i : Nat) (cr : Env → R (List AV)) (env : Env) : aOwL i cr env = match env[i]? with
  | some (some _) => (cr env).bind fun as env => match env[i]? with
    | some (some d) => .ok (.ow d (some i) :: as) (env.set i none)
    | _ => .err
  | _ => .err := (rfl)
end VS

set_option maxRecDepth 100000
namespace VS
open PySem L2 SeqAt PySem.Spec PyProof.Rows
/-! ### a value that stays as it is from now on: it may be shared -/
def cFix (c : CE) : CE := fun env => (c env).bind fun d env => .ok d.fix env
/-- the nodes S are fixed -/
structure Fz (S : List Addr) (H H' : Hp) : Prop where
  o : ∀ a, a ∉ S → H' a = H a
  i : ∀ a, a ∈ S → ∃ od u, H a = some u ∧ Mutb u ∧ H' a = some (.frz od u)
theorem Fz.mono {S : List Addr} {H H' : Hp} (z : Fz S H H') : Mono H H' := by
  constructor
  · intro a xs e
    by_cases ha : a ∈ S
    · obtain ⟨_, u, e1, mu, _⟩ := z.i a ha
      rw [e] at e1; cases e1; exact mu.elim
    · rw [z.o a ha]; exact e
  · intro a o u e
    by_cases ha : a ∈ S
    · obtain ⟨_, u', e1, mu, _⟩ := z.i a ha
      rw [e] at e1; cases e1; exact mu.elim
    · rw [z.o a ha]; exact e
section
variable {C : Ctx} {H H' : Hp} {S : List Addr}
theorem nd_fix (z : Fz S H H') (lk : ∀ a ∈ C.Lk, ∃ ob u, H a = some (.frz ob u)) {g a u fp} (n : Nd C H g a u fp) (hs : ∀ b ∈ fp, b ∈ S) : Nd C H' g.fix a u [] := by
  cases g with
  | m =>
    obtain ⟨e, rfl⟩ := n
    obtain ⟨od, u', e1, mu, e2⟩ := z.i a (hs a (by simp))
    rw [e] at e1; cases e1
    refine ⟨⟨od, e2⟩, fun hl => ?_, rfl⟩
    obtain ⟨ob, w, q⟩ := lk a hl
    rw [e] at q; cases q; exact mu
  | l => obtain ⟨h, e⟩ := n; exact ⟨h, rfl⟩
  | f => obtain ⟨⟨o, e⟩, x, _⟩ := n; exact ⟨⟨o, z.mono.z _ _ _ e⟩, x, rfl⟩
  | k => obtain ⟨⟨o, e⟩, _⟩ := n; exact ⟨⟨o, z.mono.z _ _ _ e⟩, rfl⟩
mutual
theorem Rep.fixR (z : Fz S H H') (lk : ∀ a ∈ C.Lk, ∃ ob u, H a = some (.frz ob u)) : ∀ {d : D} {v : V} {fp : List Addr}, Rep C H d v fp → (∀ b ∈ fp, b ∈ S) → Rep C H' d.fix v []
  | .non, v, fp, h, _ => ⟨h.1, rfl⟩
  | .bl b, v, fp, h, _ => ⟨h.1, rfl⟩
  | .int i, v, fp, h, _ => ⟨h.1, rfl⟩
  | .str s, v, fp, h, _ => ⟨h.1, rfl⟩
  | .ty s, v, fp, h, _ => ⟨h.1, rfl⟩
  | .tup ds, v, fp, ⟨a, vs, e, t, r⟩, hs => ⟨a, vs, e, sqt_keep t z.mono, Reps.fixR z lk r hs⟩
  | .lst g ds, v, fp, ⟨a, vs, f1, f2, e, n, r, q, e2⟩, hs => ⟨a, vs, [], [], e, nd_fix z lk n (fun b hb => hs b (by rw [e2]; exact List.mem_append_left _ hb)), Reps.fixR z lk r (fun b hb => hs b (by rw [e2]; exact List.mem_append_right _ hb)), .inr rfl, rfl⟩
  | .dct g ks ds, v, fp, ⟨a, vs, f1, f2, e, n, q, r, q2, e2⟩, hs => ⟨a, vs, [], [], e, nd_fix z lk n (fun b hb => hs b (by rw [e2]; exact List.mem_append_left _ hb)), q, Reps.fixR z lk r (fun b hb => hs b (by rw [e2]; exact List.mem_append_right _ hb)), .inr rfl, rfl⟩
  | .obj g c ns ds, v, fp, ⟨a, Ca, dx, fls, f1, f2, e, c1, n, q, r, q2, e2⟩, hs => ⟨a, Ca, dx, fls, [], [], e, c1, nd_fix z lk n (fun b hb => hs b (by rw [e2]; exact List.mem_append_left _ hb)), q, Reps.fixR z lk r (fun b hb => hs b (by rw [e2]; exact List.mem_append_right _ hb)), .inr rfl, rfl⟩
theorem Reps.fixR (z : Fz S H H') (lk : ∀ a ∈ C.Lk, ∃ ob u, H a = some (.frz ob u)) : ∀ {ds : List D} {vs : List V} {fp : List Addr}, Reps C H ds vs fp → (∀ b ∈ fp, b ∈ S) → Reps C H' (fixs ds) vs []
  | [], vs, fp, h, _ => ⟨h.1, rfl⟩
  | d :: ds, vs, fp, ⟨v, vs', f1, f2, e, r, rs, e2⟩, hs => ⟨v, vs', [], [], e, Rep.fixR z lk r (fun b hb => hs b (by rw [e2]; exact List.mem_append_left _ hb)), Reps.fixR z lk rs (fun b hb => hs b (by rw [e2]; exact List.mem_append_right _ hb)), rfl⟩
end
theorem Good.fix {fs : FPs} {env : Env} {σ : L2.St} {tf fp : List Addr} (G : Good C fs env σ H (fp ++ tf)) (z : Fz fp H H') : Good C fs env σ H' tf ∧ ∀ M, Step M tf fs env H fs env H' := by
  have p : (fs.flatten ++ (fp ++ tf)).Perm (fp ++ (fs.flatten ++ tf)) := by
    rw [← List.append_assoc, ← List.append_assoc]; exact List.perm_append_comm.append_right _
  have nd := p.nodup_iff.mp G.nd
  have apart : ∀ a ∈ fs.flatten ++ tf, a ∉ fp := fun a ha hb => (List.nodup_append.mp nd).2.2 a hb a ha rfl
  have same : ∀ a ∈ fs.flatten ++ tf, H' a = H a := fun a ha => z.o a (apart a ha)
  have m := z.mono
  have sub : ∀ a ∈ fs.flatten ++ tf, a ∈ fs.flatten ++ (fp ++ tf) := fun a ha => by
    rcases List.mem_append.mp ha with q | q
    · exact List.mem_append_left _ q
    · exact List.mem_append_right _ (List.mem_append_right _ q)
  refine ⟨⟨G.le, G.lf, fun i d e => ?_, (List.nodup_append.mp nd).2.1, fun a ha => G.own a (sub a ha), fun a ha => ?_, fun a o e na => ?_, fun a ha => ?_⟩, fun M => ⟨fun a ha => same a (List.mem_append_right _ ha), fun _ _ => rfl, fun _ _ => rfl, fun i _ a ha => same a (List.mem_append_left _ (mem_flat ha)), m⟩⟩
  · obtain ⟨v, e1, r⟩ := G.rep i d e
    exact ⟨v, e1, r.keep (fun a ha => same a (List.mem_append_left _ (mem_flat ha))) m⟩
  · rw [same a ha]; exact G.trk a (sub a ha)
  · have nf : a ∉ fp := fun ha => by
      rcases G.own a (List.mem_append_right _ (List.mem_append_left _ ha)) with q | q
      · exact na q
      · rw [q] at e; cases e
    rw [z.o a nf]; exact G.fr a o e na
  · obtain ⟨ob, u, e⟩ := G.lk a ha
    exact ⟨ob, u, m.z _ _ _ e⟩
end
/-- fixed one by one -/
def FzQ : List Addr → Hp → (Hp → Prop) → Prop
  | [], H, Q => Q H
  | a :: as, H, Q => ∃ u, H a = some u ∧ Mut (some u) ∧ ∀ od, FzQ as (L2.upd H a (.frz od u)) Q
theorem mut_of {u : HO} (h : Mutb u) : Mut (some u) := by cases u <;> first | trivial | exact h.elim
theorem fzq_of : ∀ {as : List Addr} {H : Hp} {Q : Hp → Prop}, as.Nodup → (∀ a ∈ as, ∃ o, H a = some o ∧ Mutb o) → (∀ H', Fz as H H' → Q H') → FzQ as H Q
  | [], H, Q, _, _, h => h H ⟨fun _ _ => rfl, fun _ z => nomatch z⟩
  | a :: as, H, Q, nd, tk, h => by
    obtain ⟨na, nd'⟩ := List.nodup_cons.mp nd
    obtain ⟨u, e, mu⟩ := tk a (by simp)
    refine ⟨u, e, mut_of mu, fun od => fzq_of nd' (fun b hb => ?_) fun H' z => h H' ⟨fun b hb => ?_, fun b hb => ?_⟩⟩
    · have : b ≠ a := fun q => na (q ▸ hb)
      obtain ⟨o, e2, m2⟩ := tk b (by simp [hb])
      exact ⟨o, by rw [upd_ne this]; exact e2, m2⟩
    · simp only [List.mem_cons, not_or] at hb
      rw [z.o b hb.2, upd_ne hb.1]
    · rcases List.mem_cons.mp hb with q | q
      · subst q
        exact ⟨od, u, e, mu, by rw [z.o b na]; exact upd_same⟩
      · have : b ≠ a := fun r => na (r ▸ q)
        obtain ⟨od2, u2, e2, m2, e3⟩ := z.i b q
        rw [upd_ne this] at e2
        exact ⟨od2, u2, e2, m2, e3⟩
section
variable {X : Cx} {W : WX} {M : List Nat} {e : Expr} {c : CE}
theorem inv_fzq {pins : List (Addr × Obj)} {σ : L2.St} {s : Shared} : ∀ {as : List Addr} {H : Hp} {Q : Hp → Prop}, L2.Inv X pins σ H s → FzQ as H Q → ∃ H', L2.Inv X pins σ H' s ∧ Q H'
  | [], H, Q, I, h => ⟨H, I, h⟩
  | a :: as, H, Q, I, ⟨u, e, mu, h⟩ => by
    obtain ⟨od, I1⟩ := I.lock e mu
    exact inv_fzq I1 (h od)
theorem pe_fix {t : TE} (h : PE X e t) : PE X e (fun σ H Q => t σ H fun v H1 => ∃ as, FzQ as H1 (Q v)) := by
  refine ⟨fun pins s σ H Q I hw => thn (h.run pins s σ H _ I hw) fun u s1 ⟨v, H1, I1, r, as, q⟩ => ?_⟩
  obtain ⟨H2, I2, q2⟩ := inv_fzq I1 q
  exact ⟨v, H2, I2, r, q2⟩
theorem so_fix (h : SO X W M e c) : SO X W M e (cFix c) := by
  obtain ⟨t, p, q⟩ := h.go
  refine ⟨_, pe_fix p, fun C fs env σ H tf Q hC G po => ?_⟩
  show t σ H fun v H1 => _
  refine q C fs env σ H tf _ hC G ?_
  unfold cFix at po
  cases e1 : c env with
  | err => rw [e1] at po; exact po
  | ex x env' => rw [e1] at po; exact po
  | ok d env1 =>
    rw [e1] at po
    intro v fs1 H1 fp G1 s1 r
    have nd : fp.Nodup := (List.nodup_append.mp (List.nodup_append.mp G1.nd).2.1).1
    refine ⟨fp, fzq_of nd (fun a ha => r.trk a ha) fun H2 z => ?_⟩
    obtain ⟨G2, s2⟩ := G1.fix z
    have st : Step M tf fs env H fs1 env1 H2 := by
      have := s1.trans (s2 [])
      simpa using this
    exact po v fs1 H2 [] (by simpa using G2) st (r.fixR z G1.lk fun b hb => hb)
end
@[simp] theorem e_fix (c : CE) (env : Env) : cFix c env = (c env).bind fun d env => .ok d.fix env := (rfl)
@[simp] theorem fixs_nil : fixs [] = [] := (rfl)
@[simp] theorem fixs_cons (d : D) (ds : List D) : fixs (d :: ds) = d.fix :: fixs ds := (rfl)
@[simp] theorem fix_lstm (ds : List D) : (D.lst .m ds).fix = .lst .f (fixs ds) := (rfl)
@[simp] theorem fix_lstf (ds : List D) : (D.lst .f ds).fix = .lst .f (fixs ds) := (rfl)
@[simp] theorem fix_tup (ds : List D) : (D.tup ds).fix = .tup (fixs ds) := (rfl)
@[simp] theorem fix_int (i : Int) : (D.int i).fix = .int i := (rfl)
@[simp] theorem fix_str (i : Str) : (D.str i).fix = .str i := (rfl)
@[simp] theorem fix_bl (i : Bool) : (D.bl i).fix = .bl i := (rfl)
@[simp] theorem fix_non : D.non.fix = .non := (rfl)
@[simp] theorem fix_dctm (ks : List Key) (ds : List D) : (D.dct .m ks ds).fix = .dct .f ks (fixs ds) := (rfl)
theorem fixs_map {α : Type} {f : α → D} (h : ∀ x, (f x).fix = f x) : ∀ xs : List α, fixs (xs.map f) = xs.map f
  | [] => rfl
  | x :: xs => by rw [List.map_cons, fixs_cons, h, fixs_map h xs]
end VS

set_option maxRecDepth 100000
namespace VS
open PySem L2 SeqAt PySem.Spec PyProof.Rows
/-! ### what lies in a slot is fixed ahead of a statement -/
def sFixB (i : Nat) (c : CS) : CS := fun env => match env[i]? with
  | some (some d) => c (env.set i (some d.fix))
  | _ => .err
section
variable {X : Cx} {W : WX} {M Vs : List Nat} {st : Stmt} {sts : List Stmt} {c : CS}
theorem fix_slot {C : Ctx} {fs : FPs} {env : Env} {σ : L2.St} {H : Hp} {tf : List Addr} {i : Nat} {d : D} (G : Good C fs env σ H tf) (e : env[i]? = some (some d)) : (fs.getD i []).Nodup ∧ (∀ a ∈ fs.getD i [], ∃ o, H a = some o ∧ Mutb o) ∧
    ∀ H', Fz (fs.getD i []) H H' → Good C (fs.set i []) (env.set i (some d.fix)) σ H' tf ∧ StepS [i] [] tf fs env σ H (fs.set i []) (env.set i (some d.fix)) σ H' := by
  have lt := G.lt e
  have le : i < env.length := (List.getElem?_eq_some_iff.mp e).1
  have G1 := G.mv e
  obtain ⟨v, ev, r⟩ := G.rep i d e
  refine ⟨(List.nodup_append.mp (List.nodup_append.mp G1.nd).2.1).1, fun a ha => r.trk a ha, fun H' z => ?_⟩
  obtain ⟨G2, s2⟩ := G1.fix z
  have rf := r.fixR z G.lk fun b hb => hb
  refine ⟨⟨by simpa using G.le, G2.lf, fun j dj ej => ?_, G2.nd, G2.own, G2.trk, G2.fr, G2.lk⟩, ⟨⟨(s2 []).t, fun j hj => ?_, fun j hj => ?_, fun j hj a ha => ?_, (s2 []).m⟩, fun _ _ => rfl⟩⟩
  · rw [List.getElem?_set] at ej
    by_cases hj : i = j
    · subst hj
      simp [le] at ej
      subst ej
      refine ⟨v, ev, ?_⟩
      rw [getD_set fs i i [] lt, if_pos rfl]; exact rf
    · rw [if_neg hj] at ej
      exact G2.rep j dj (by rw [List.getElem?_set, if_neg hj]; exact ej)
  · rw [getD_set fs i j [] lt, if_neg (by simpa using hj)]
  · rw [List.getElem?_set, if_neg (by intro q; subst q; simp at hj)]
  · refine (s2 []).h j (by simp) a ?_
    rw [getD_set fs i j [] lt, if_neg (by simpa using hj)]; exact ha
theorem ps_fix {t : TS} (h : PS X st t) : PS X st (fun E σ H => ∃ as, FzQ as H fun H' => t E σ H') := by
  refine ⟨fun pins s σ H E I ⟨as, q⟩ => ?_⟩
  obtain ⟨H2, I2, q2⟩ := inv_fzq I q
  exact h.run pins s σ H2 E I2 q2
theorem pss_fix {t : TS} (h : PSs X sts t) : PSs X sts (fun E σ H => ∃ as, FzQ as H fun H' => t E σ H') := by
  refine ⟨fun pins s σ H E I ⟨as, q⟩ => ?_⟩
  obtain ⟨H2, I2, q2⟩ := inv_fzq I q
  exact h.run pins s σ H2 E I2 q2
theorem ss_fixB (i : Nat) (h : SS X W M Vs st c) : SS X W ([i] ++ M) ([] ++ Vs) st (sFixB i c) := by
  obtain ⟨t, p, q⟩ := h.go
  refine ⟨_, ps_fix p, fun C fs env σ H tf E hC G po => ?_⟩
  unfold sFixB at po
  split at po
  case h_2 => exact po.elim
  rename_i d e
  obtain ⟨nd, tk, fin⟩ := fix_slot G e
  refine ⟨fs.getD i [], fzq_of nd tk fun H' z => ?_⟩
  obtain ⟨G2, s2⟩ := fin H' z
  exact q C _ _ σ H' tf E hC G2 (PostS.step s2 po)
theorem sss_fixB (i : Nat) (h : SSs X W M Vs sts c) : SSs X W ([i] ++ M) ([] ++ Vs) sts (sFixB i c) := by
  obtain ⟨t, p, q⟩ := h.go
  refine ⟨_, pss_fix p, fun C fs env σ H tf E hC G po => ?_⟩
  unfold sFixB at po
  split at po
  case h_2 => exact po.elim
  rename_i d e
  obtain ⟨nd, tk, fin⟩ := fix_slot G e
  refine ⟨fs.getD i [], fzq_of nd tk fun H' z => ?_⟩
  obtain ⟨G2, s2⟩ := fin H' z
  exact q C _ _ σ H' tf E hC G2 (PostS.step s2 po)
end
@[simp] theorem e_fixB (i : Nat) (c : CS) (env : Env) : sFixB i c env = match env[i]? with
  | some (some d) => c (env.set i (some d.fix))
  | _ => .err := (rfl)
/-! ### dict(pairs), the values go along -/
def cDictM (c : CE) : CE := fun env => (c env).bind fun d env => match d with
  | .lst .m ds => (match pairsD ds with
    | some ps => if (ps.map (·.1)).Nodup then .ok (.dct .m (ps.map (·.1)) (ps.map (·.2))) env else .err
    | none => .err)
  | _ => .err
theorem merge_nodup : ∀ {kvs acc : List (Key × V)}, ((acc ++ kvs).map (·.1)).Nodup → mergeK acc kvs = acc ++ kvs
  | [], acc, _ => by simp [mergeK]
  | (k, v) :: kvs, acc, h => by
    have hk : valV acc k = none := by
      cases q : idxK (acc.map (·.1)) k with
      | none => exact idx_none q
      | some j =>
        exfalso
        have hm : k ∈ acc.map (·.1) := by
          have := idx_at q
          exact List.mem_of_getElem? this
        rw [List.map_append] at h
        exact (List.nodup_append.mp h).2.2 k hm k (by simp) rfl
    have e : mergeK acc ((k, v) :: kvs) = mergeK (acc ++ [(k, v)]) kvs := by
      show mergeK (putK acc k v) kvs = _
      rw [putK_new v hk]
    rw [e, merge_nodup (by simpa using h)]
    simp
section
variable {X : Cx} {W : WX} {M : List Nat} {e : Expr} {c : CE} {C : Ctx} {H : Hp} {p pos : Pos}
theorem pairs_repM (hC : C.At X) : ∀ {ds : List D} {ps : List (Key × D)} {vs : List V} {fp : List Addr}, pairsD ds = some ps → Reps C H ds vs fp → ∃ (as : List Addr) (kvs : List (Key × V)), vs = as.map V.ref ∧ Paired (fun p kv => SqT X.K H p [kV kv.1, kv.2]) as kvs ∧
    kvs.map (·.1) = ps.map (·.1) ∧ Reps C H (ps.map (·.2)) (kvs.map (·.2)) fp
  | [], ps, vs, fp, h, ⟨h1, h2⟩ => by cases h; subst h1 h2; exact ⟨[], [], rfl, .nil, rfl, rfl, rfl⟩
  | d :: ds, ps, vs, fp, h, ⟨v, vs', f1, f2, e, r, rs, e2⟩ => by
    subst e
    unfold pairsD at h
    split at h
    · rename_i he; cases he
    · rename_i k x ds' he
      cases he
      obtain ⟨ky, h1, h2⟩ := Option.bind_eq_some_iff.mp h
      obtain ⟨ps', h3, rfl⟩ := Option.map_eq_some_iff.mp h2
      obtain ⟨as, kvs, q1, q2, q3, q4⟩ := pairs_repM hC h3 rs
      obtain ⟨ad, ws, rfl, n, rw⟩ := r
      obtain ⟨u1, us, g1, g2, ew, ru, rus, eg⟩ := rw
      obtain ⟨u2, us2, g3, g4, ew2, ru2, ⟨ew3, eg3⟩, eg2⟩ := rus
      have eg1 : g1 = [] := by
        cases k with
        | int i => exact ru.2
        | str z => exact ru.2
        | _ => cases h1
      subst eg1 ew3 ew2 ew q1 eg3
      have ek := key_of h1 ru
      subst ek
      refine ⟨ad :: as, (ky, u2) :: kvs, rfl, .cons (by rw [← hC.1]; exact n) q2, by simp [q3], u2, _, g3, f2, rfl, ru2, q4, ?_⟩
      rw [e2, eg, eg2]; simp
    · cases h
theorem so_dictM (hc : X.calm = true) (hg : Gl X "dict") (hm : X.mg "dict" = none) (h : SO X W M e c) (he : starEach [e] X.env = (false, eval e X.env) :: starEach [] X.env) (hpl : (backTo pos (starEach [] X.env)).any (·.1) = false) :
    SO X W M (.Call (.Name "dict" p) [e] [] pos) (cDictM c) := by
  obtain ⟨t, pe, q⟩ := h.go
  refine ⟨_, pe_callTy (call_dictP hc) hg hm (show bootBuiltins "dict" = some (.type "dict") by decide +kernel) (pa_cons pe pa_nil he) (by decide) (by decide) he hpl, fun C fs env σ H tf Q hC G po => ?_⟩
  show t σ H fun x H1 => _
  refine q C fs env σ H tf _ hC G ?_
  unfold cDictM at po
  cases e1 : c env with
  | err => rw [e1] at po; exact po
  | ex x env' => rw [e1] at po; exact po
  | ok d env1 =>
    rw [e1] at po
    intro v fs1 H1 fp G1 s1 r
    simp only [R.bind] at po
    cases d with
    | lst g ds =>
      cases g with
      | m =>
        simp only at po
        cases hp : pairsD ds with
        | none => rw [hp] at po; exact po.elim
        | some ps =>
        rw [hp] at po
        simp only at po
        by_cases hn : (ps.map (·.1)).Nodup
        case neg => rw [if_neg hn] at po; exact po.elim
        rw [if_pos hn] at po
        obtain ⟨a, vs, f1, f2, rfl, ⟨n1, rfl⟩, rz, _, rfl⟩ := r
        obtain ⟨as, kvs, rfl, q2, q3, q4⟩ := pairs_repM hC hp rz
        have em : mergeK [] kvs = kvs := merge_nodup (by rw [List.nil_append, q3]; exact hn)
        refine ⟨a, as, kvs, rfl, .inl (.inl n1), q2, fun b hb => ?_⟩
        rw [em]
        have le := Le.new (o := .dK kvs) hb
        have G2 : Good C fs1 env1 σ H1 (f2 ++ tf) := G1.sub (by simp)
        have G3 : Good C fs1 env1 σ (L2.upd H1 b (.dK kvs)) (b :: (f2 ++ tf)) := G2.new hb trivial
        have s3 : Step M tf fs env H fs1 env1 (L2.upd H1 b (.dK kvs)) := by
          have := s1.trans (Step.grow (M := []) (G2.drop) le)
          simpa using this
        exact po (.ref b) fs1 _ (b :: f2) G3 s3 ⟨b, kvs, [b], f2, rfl, ⟨upd_same, rfl⟩, ⟨q3, hn⟩, q4.le le, .inl rfl, rfl⟩
      | _ => exact po.elim
    | _ => exact po.elim
end
@[simp] theorem e_dictM (c : CE) (env : Env) : cDictM c env = (c env).bind fun d env => match d with
  | .lst .m ds => (match pairsD ds with
    | some ps => if (ps.map (·.1)).Nodup then .ok (.dct .m (ps.map (·.1)) (ps.map (·.2))) env else .err
    | none => .err)
  | _ => .err := (rfl)
end VS

set_option maxRecDepth 100000
namespace VS
open PySem L2 SeqAt PySem.Spec PyProof.Rows
/-! ### f() -/
theorem so_call0 {X : Cx} {W : WX} {pos : Pos} {k : Nat} {x : Str} {φ : List D → FR} {pf : Pos} (F : Fd X.prog X.w X.K X.mg X.base k x [] [] φ) (hr : Room k X.A) (tk : Takes X W) (hg : Gl X x) (hdb : (x == ("__debug__" : Str)) = false) :
    SO X W [] (.Call (.Name x pf) [] [] pos) (cCall φ aNil) := by
  obtain ⟨f, fd, G, hm, hk, hb⟩ := F
  have ha : SRI X W [] [] [] [] aNil := sri_nil
  refine ⟨tCallS (spF X.K X.mg [] φ) (WE W) tNil, ⟨fun pins s σ H Q I h => wpAny_Call_Name_kw (ld_glob I hg hm (PySem.W.callWith_K0 I.kIn hk (run_fnS G hr hb (passAt tk σ) I .nil h)) hdb)⟩, ?_⟩
  exact call_go (Rs := []) (E := WE W) (fun _ _ _ _ h => h) ha.shape (fun C fs env σ H tf Q hC G (po : PostR W C [] [] tf fs env σ H Q (.ok [] env)) => po [] fs H [] [] (by simpa using G) .refl ⟨rfl, rfl⟩) (by unfold djB; simp)
end VS

set_option maxRecDepth 100000
namespace VS
open PySem L2 SeqAt PySem.Spec PyProof.Rows
section
variable {X : Cx} {W : WX} {M Rs : List Nat} {e : Expr} {cs : CA} {c : CE} {pos pf : Pos}
/-! ### max(xs, default=0) -/
def pMaxD : List D → Option D := fun ds => match ds with
  | [.lst _ []] => some (.int 0)
  | [.lst g (d :: es)] => if shallowA (d :: es) then pMaxL [.lst g (d :: es)] else none
  | _ => none
theorem ck_maxD {k : Nat} (hr : Room k X.A) (hcalm : X.calm = true) : CallRK X (.builtin "max") [Str.ofString "default"] (fun vs zs H Q => zs = [V.int 0] ∧ rDL X pMaxD vs H Q) := by
  intro pins s σ H vs zs us ws Q I rv rz h
  obtain ⟨rfl, C, ds0, fx, dr, hC, hF, rs, e, kk⟩ := h
  obtain ⟨w1, rfl, e1⟩ := vals1 rz
  obtain ⟨t1, rfl⟩ : ∃ t, w1 = Value.int 0 t := e1
  show wpAny _ _ (call (.builtin "max") us [(Str.ofString "default", Value.int 0 t1)]) _ _ _
  unfold pMaxD at e
  split at e
  · rename_i g
    cases e
    obtain ⟨v, rfl, r⟩ := reps1 rs
    obtain ⟨a, vs, f, rfl, q, rz⟩ := rep_list hC hF r
    obtain ⟨u, rfl, ru⟩ := vals1 rv
    cases (show u = Value.ref a from ru)
    obtain ⟨its, rv2, hl, hz⟩ := I.list q
    obtain ⟨rfl, _⟩ := rz
    have : its = [] := by cases rv2; rfl
    subst this
    refine PySem.W.max_list_default (xs := []) (as := []) (I.ok.hd hcalm) hl.isList ReadsAll.nil (show PySem.W.AlikeAll [] from ⟨fun x hx => (by cases hx), fun x hx => (by cases hx)⟩) (by
      have := hr.units
      simp only [PyData.depthAll]
      omega) (fun _ h' tk hk => ?_) (fun y ys i v h' tk bs hh => by cases hh)
    exact ⟨.int 0, H, I.kept hk, ⟨_, rfl⟩, kk.here ⟨rfl, rfl⟩⟩
  · rename_i g d es
    split at e
    case isFalse => cases e
    rename_i hsh
    unfold pMaxL at e
    split at e
    case h_2 => rename_i hh; exact absurd rfl (hh g d es)
    rename_i g' d' es' he
    cases he
    split at e
    case isFalse => cases e
    rename_i hok
    cases e
    obtain ⟨v, rfl, r⟩ := reps1 rs
    obtain ⟨a, vs, f, rfl, q, rz⟩ := rep_list hC hF r
    obtain ⟨u, rfl, ru⟩ := vals1 rv
    cases (show u = Value.ref a from ru)
    obtain ⟨its, rv2, hl, hz⟩ := I.list q
    unfold shallowA at hsh
    split at hsh
    case h_2 => cases hsh
    rename_i ys hys
    have e1 := pys_map hys
    obtain ⟨as, ra, _⟩ := readsAll_rep I hC hF hys rz rv2
    subst e1
    refine PySem.W.max_list_default (xs := pyO d :: es.map pyO) (as := as) (I.ok.hd hcalm) hl.isList (by simpa using ra) (minOk_alike hok hys) (by
      have h1 := of_decide_eq_true hsh
      have := hr.units
      simp only [List.map_cons] at h1
      omega) (fun hh => by cases hh) fun y ys i v h' tk bs hh hv hrd hk => ?_
    cases hh
    obtain ⟨w, h1, h2⟩ := best_of (f := fun y a => PySem.W.dataLt a y) I hC hF hok rz rv2 hk (by simpa using hv) hrd
    exact ⟨w, H, I.kept hk, h1, kk.here h2⟩
  · cases e
def tK0 : TE := fun _ H Q => Q (.int 0) H
theorem so_maxD {k : Nat} {p2 p3 : Pos} {kd} (hr : Room k X.A) (hcalm : X.calm = true) (hg : Gl X "max") (hm : X.mg "max" = none) (ha : SA X W M Rs [e] cs)
    (he : backTo pos (starEach [e] X.env) = (false, eval e X.env) :: backTo pos (starEach [] X.env) := by rfl) (hpl : (backTo pos (starEach [e] X.env)).any (·.1) = false := by rfl) :
    SO X W M (.Call (.Name "max" pf) [e] [⟨some "default", .Constant (.int 0) kd p2, p3⟩] pos) (cL pMaxD cs) := by
  obtain ⟨t, pa, q⟩ := ha.go
  refine ⟨_, pe_callBK (ck_maxD hr hcalm) hg hm (by decide +kernel) pa (pk_cons pe_int pk_nil) (by decide) (by decide) he hpl (by rfl) (by rfl) (by rfl), fun C fs env σ H tf Q hC G po => ?_⟩
  show t σ H fun vs H1 => [V.int 0] = [V.int 0] ∧ rDL X pMaxD vs H1 Q
  refine q C fs env σ H tf _ hC G ?_
  unfold cL at po
  cases e1 : cs env with
  | err => rw [e1] at po; exact po
  | ex x env' => rw [e1] at po; exact po
  | ok ds env' =>
    rw [e1] at po
    intro vs fs' H' fp own G' s r i
    have po' : PostO W C M tf fs env σ H Q (R.of (pMaxD ds) env') := po
    cases e2 : pMaxD ds with
    | none => rw [e2] at po'; exact po'.elim
    | some z =>
      rw [e2] at po'
      exact ⟨rfl, C, ds, fp, z, hC, G'.fr, r, e2, comes_post G' s po'⟩
@[simp] theorem e_maxD0 (g : Fl) : pMaxD [.lst g []] = some (.int 0) := (rfl)
theorem e_maxD1 (g : Fl) (d : D) (ds : List D) : pMaxD [.lst g (d :: ds)] = pMaxG [.lst g (d :: ds)] := (rfl)
end
end VS

set_option maxRecDepth 100000
namespace VS
open PySem L2 SeqAt
section
variable {X : Cx} {W : WX} {M M1 M2 M3 V1 V2 V3 Rs R1 R2 R3 : List Nat} {e a b c tg o : Expr} {es : List Expr} {ca cb cc : CE} {cs : CA} {pos p : Pos} {cl : CL} {i : Nat}
variable {pins : List (Addr × Obj)} {σ : St} {H H1 H2 H' : Hp} {s : Shared} {C C' : Ctx} {fs fs1 fs2 : FPs} {env env1 env2 : Env} {tf tf' own : List Addr}
/-! ### a place within a tuple -/
def kidT : D → D → Option (D × (D → D))
  | .tup ds, .int k => (ixN ds.length k).bind fun j => (ds[j]?).map fun x => (x, fun y => .tup (ds.set j y))
  | _, _ => none
def lIdxT (cl : CL) (cb : CE) : CL := fun env => (cl env).bind fun dF env => (cb env).bind fun y env => match kidT dF.1 y with
  | some (x, G) => .ok (x, dF.2 ∘ G) env
  | none => .err
theorem foc_kidT {d y x : D} {G : D → D} {v w : V} {fp fw} (hC : C.At X) (hF : Fr C H) (r : Rep C H d v fp) (ry : Rep C H y w fw) (h : kidT d y = some (x, G)) :
    ∃ v' g1 fp' g2, fp = g1 ++ fp' ++ g2 ∧ Foc C H d v g1 x v' fp' g2 G ∧ ∀ Q : VK, Q v' H → (rIx X.K v w H Q ∨ rIxD v w H Q) := by
  unfold kidT at h
  split at h
  · rename_i ds k
    obtain ⟨j, hj, h⟩ := Option.bind_eq_some_iff.mp h
    obtain ⟨x', hx, h⟩ := Option.map_eq_some_iff.mp h
    cases h
    obtain ⟨a, vs, rfl, sq, rs⟩ := r
    obtain ⟨rfl, _⟩ := ry
    obtain ⟨w', g1, f, g2, h1, h2, h3, h4⟩ := reps_set rs hx
    have sq' := sq
    rw [hC.1] at sq'
    refine ⟨w', g1, f, g2, h3, ⟨h2, fun H' y f' m k' r' => ?_⟩, fun Q q => .inl (.inr (.inl ⟨a, vs, k, w', rfl, rfl, sq', ?_, q⟩))⟩
    · have hs := h4 H' y w' f' m k' r'
      have e : vs.set j w' = vs := by
        obtain ⟨q1, q2⟩ := List.getElem?_eq_some_iff.mp h1
        conv => rhs; rw [← List.set_getElem_self (as := vs) (i := j) q1]
        rw [q2]
      rw [e] at hs
      exact ⟨a, vs, rfl, sqt_keep sq m, hs⟩
    · unfold atI
      rw [← reps_length rs, hj]; exact h1
  · cases h
theorem sl_idxT {k : Nat} (hr : Room k X.A) (ha : SL X W i M1 a cl) (hb : SB X W M2 R2 b cb) (hs : PlainIx b := by exact fun _ _ => rfl) (hi : djB [i] M2 = true := by decide) : SL X W i (M1 ++ M2) (.Subscript a b pos) (lIdxT cl cb) := by
  obtain ⟨t, p, q⟩ := ha.go
  obtain ⟨t2, p2, q2⟩ := hb.go
  refine ⟨tOp (fun x y H Q => rIx X.K x y H Q ∨ rIxD x y H Q) t t2, pe_ix (ix_seq.or (ix_dict hr)) p p2 hs, fun C fs env σ H tf Q hC G po => ?_⟩
  refine q C fs env σ H tf _ hC G ?_
  unfold lIdxT at po
  cases e1 : cl env with
  | err => rw [e1] at po; exact po
  | ex x env' => rw [e1] at po; exact fun cv dd fs' H' G' s => po cv dd fs' H' G' (s.weak mem_l fun _ z => z)
  | ok dF env1 =>
    rw [e1] at po
    intro v' fs1 H1 d v g1 fp' g2 G1 s1 hd hv hf Fo
    refine q2 C fs1 env1 σ H1 tf _ hC G1 ?_
    have po1 : PostL W C i (M1 ++ M2) tf fs env σ H Q ((cb env1).bind fun y env => match kidT dF.1 y with
      | some (x, G) => .ok (x, dF.2 ∘ G) env
      | none => .err) := po
    cases e2 : cb env1 with
    | err => rw [e2] at po1; exact po1
    | ex x env' => rw [e2] at po1; exact fun cv dd fs' H' G' s => po1 cv dd fs' H' G' (s1.trans s)
    | ok y env2 =>
      rw [e2] at po1
      intro w fs2 H2 fw own G2 s2 rw' iw
      have ni : i ∉ M2 := djB_ok hi i (by simp)
      have Fo2 := Fo.keep s2.m (fun a ha => s2.h i ni a (by rw [hf]; exact ha))
      have po2 : PostL W C i (M1 ++ M2) tf fs env σ H Q (match kidT dF.1 y with
        | some (x, G) => .ok (x, dF.2 ∘ G) env2
        | none => .err) := po1
      cases e3 : kidT dF.1 y with
      | none => rw [e3] at po2; exact po2.elim
      | some xG =>
        rw [e3] at po2
        obtain ⟨x, Gf⟩ := xG
        obtain ⟨v2, h1, f2, h2, ef, F2, rd⟩ := foc_kidT hC G2.fr Fo2.here rw' e3
        refine rd Q ?_
        refine po2 v2 fs2 H2 d v (g1 ++ h1) f2 (h2 ++ g2) G2.drop (s1.trans s2) (by rw [s2.e i ni]; exact hd) hv ?_ (Fo2.comp F2 ef)
        rw [s2.f i ni, hf, ef]; simp [List.append_assoc]

@[simp] theorem e_lidxT : lIdxT cl cb env = (cl env).bind fun dF env => (cb env).bind fun y env => match kidT dF.1 y with
  | some (x, G) => .ok (x, dF.2 ∘ G) env
  | none => .err := (rfl)
@[simp] theorem kidT_t (ds : List D) (k : Int) : kidT (.tup ds) (.int k) = (ixN ds.length k).bind fun j => (ds[j]?).map fun x => (x, fun y => .tup (ds.set j y)) := (rfl)
end
end VS

set_option maxRecDepth 100000
namespace VS
open PySem L2 SeqAt PySem.Spec PyProof.Rows
section
variable {α β : Type} (env : Env) (i j : Nat) (c ca cb cc cd : CE) (cs : CA) (ct : CT) (ta tb : CT) (d : D) (p q : D → D → Option D) (p1 : D → Option D) (pl : List D → Option D) (s1 s2 : CS) (g : D → Env → Option Env) (cn f m : Str) (cl : CL) (cr : Env → R (List AV)) (φ : List D → FR)
@[simp] theorem e_fld : cFld cn f ca env = (ca env).bind fun d env => R.of (fldD cn f d) env := (rfl)
@[simp] theorem e_setf : sSetF i cn f cl ca env = match ca env with
  | .ok x env1 => (match cl env1 with
    | .ok dF env2 => (match stF cn f dF.1 x with
      | some d' => .nx (env2.set i (some (dF.2 d')))
      | none => .err)
    | _ => .err)
  | .ex x env => .ex x env
  | .err => .err := (rfl)
@[simp] theorem e_lfld : lFld cn f cl env = (cl env).bind fun dF env => match kidF cn f dF.1 with
  | some (x, G) => .ok (x, dF.2 ∘ G) env
  | none => .err := (rfl)
@[simp] theorem e_lidx : lIdx cl cb env = (cl env).bind fun dF env => (cb env).bind fun y env => match kidD dF.1 y with
  | some (x, G) => .ok (x, dF.2 ∘ G) env
  | none => .err := (rfl)
@[simp] theorem e_aug (gi : Int → Int → Int) : sAug i gi ca env = match env[i]? with
  | some (some (.int x)) => (match ca env with
    | .ok (.int y) env1 => .nx (env1.set i (some (.int (gi x y))))
    | .ok _ _ => .err
    | .ex x env => .ex x env
    | .err => .err)
  | _ => .err := (rfl)
@[simp] theorem e_daug (gi : Int → Int → Int) : VS.sDAug i gi cl cb ca env = match cl env with
  | .ok dF env1 => (match cb env1 with
    | .ok y env2 => (match intAt dF.1 y with
      | some x => (match ca env2 with
        | .ok (.int z) env3 => (match stD dF.1 y (.int (gi x z)) with
          | some d' => .nx (env3.set i (some (dF.2 d')))
          | none => .err)
        | _ => .err)
      | none => .err)
    | _ => .err)
  | _ => .err := (rfl)
@[simp] theorem e_arom : aRoM cn m ca cr env = (ca env).bind fun d env => if mthOk cn m d then ((cr env).bind fun as env => .ok (.ro d :: as) env) else .err := (rfl)
@[simp] theorem e_aowm (wb : Option Nat) : aOwM cn m ca wb cr env = (ca env).bind fun d env => if mthOk cn m d then ((cr env).bind fun as env => .ok (.ow d wb :: as) env) else .err := (rfl)
@[simp] theorem e_make : cMake cn φ cr env = (cr env).bind fun avs env => makeEnd avs env (φ (.obj .m cn [] [] :: avs.map AV.d)) := (rfl)
@[simp] theorem e_make1 (avs : List AV) (self : D) (os : List D) : makeEnd avs env (.ok .non (self :: os)) = if self.nol && nols os then (match putBack avs os env with
    | some env' => .ok self env'
    | none => .err) else .err := (rfl)
@[simp] theorem e_pairs0 : cPairs [] env = .ok [] env := (rfl)
@[simp] theorem e_pairs1 (r : List (CE × CE)) : cPairs ((ca, cb) :: r) env = (ca env).bind fun dk env => (cb env).bind fun dv env => (cPairs r env).bind fun ps env => match dk.key with
    | some ky => .ok ((ky, dv) :: ps) env
    | none => .err := (rfl)
@[simp] theorem e_disp (cps : List (CE × CE)) : cDisp cps env = (cPairs cps env).bind fun ps env => if ps.length ≤ 15 ∧ (ps.map (·.1)).Nodup then .ok (.dct .m (ps.map (·.1)) (ps.map (·.2))) env else if ps.length ≤ 15 ∧ imms (ps.map (·.2)) = true then .ok (.dct .m (mkD ps).1 (mkD ps).2) env else .err := (rfl)
@[simp] theorem e_get1 : cGet1 cd cb env = (cd env).bind fun d env => if isDct d then ((cb env).bind fun y env => R.of (getD2 d y .non) env) else .err := (rfl)
@[simp] theorem e_get2 : cGet2 cd cb cc env = (cd env).bind fun d env => if isDct d then ((cb env).bind fun y env => (cc env).bind fun x env => R.of (getD2 d y x) env) else .err := (rfl)
@[simp] theorem e_setd : lSetd i cl cb cc env = (cl env).bind fun dF env => if isDct dF.1 then ((cb env).bind fun y env => (cc env).bind fun x env => match setdD dF.1 y x with
  | some (some d', z, G) => .ok (z, dF.2 ∘ G) (env.set i (some (dF.2 d')))
  | some (none, z, G) => .ok (z, dF.2 ∘ G) env
  | none => .err) else .err := (rfl)
@[simp] theorem e_gsub (x : D) : gSubD i cl cb x env = match cl env with
  | .ok dF env1 => match cb env1 with
    | .ok y env2 => (stD dF.1 y x).map fun d' => env2.set i (some (dF.2 d'))
    | _ => none
  | _ => none := (rfl)
@[simp] theorem e_strd : iStrD ca env = (ca env).bind fun d env => match d with
  | .str z => .ok (signsD z) env
  | _ => .err := (rfl)
@[simp] theorem e_while (μ : Env → Nat) : sWhile μ ct s1 env = whRun ct s1 (μ env) env := (rfl)
@[simp] theorem e_isd (g : Fl) (ks : List Key) (ds : List D) : isDct (.dct g ks ds) = true := (rfl)
@[simp] theorem e_keyI (i : Int) : (D.int i).key = some (.inl i) := (rfl)
@[simp] theorem e_keyS (s : Str) : (D.str s).key = some (.inr s) := (rfl)
/-! trees -/
@[simp] theorem e_nol7 (ks : List Key) (ds : List D) : (D.dct .m ks ds).nol = nols ds := (rfl)
@[simp] theorem e_nol8 (c : Str) (ns : List Str) (ds : List D) : (D.obj .m c ns ds).nol = nols ds := (rfl)
@[simp] theorem e_nol9 (ds : List D) : (D.lst .f ds).nol = nols ds := (rfl)
@[simp] theorem e_imm7 (g : Fl) (ks : List Key) (ds : List D) : (D.dct g ks ds).imm = ((g == .l || g == .f) && imms ds) := (rfl)
@[simp] theorem e_imm8 (g : Fl) (c : Str) (ns : List Str) (ds : List D) : (D.obj g c ns ds).imm = ((g == .l || g == .f) && imms ds) := (rfl)
@[simp] theorem e_lend8 (ks : List Key) (ds : List D) : (D.dct .m ks ds).lend = .dct .l ks (lends ds) := (rfl)
@[simp] theorem e_lend9 (ks : List Key) (ds : List D) : (D.dct .l ks ds).lend = .dct .l ks (lends ds) := (rfl)
@[simp] theorem e_lend10 (c : Str) (ns : List Str) (ds : List D) : (D.obj .m c ns ds).lend = .obj .l c ns (lends ds) := (rfl)
@[simp] theorem e_lend11 (c : Str) (ns : List Str) (ds : List D) : (D.obj .l c ns ds).lend = .obj .l c ns (lends ds) := (rfl)
@[simp] theorem fl1 : (Fl.m == Fl.l) = false := (rfl)
@[simp] theorem fl2 : (Fl.m == Fl.f) = false := (rfl)
@[simp] theorem fl3 : (Fl.l == Fl.l) = true := (rfl)
@[simp] theorem fl4 : (Fl.l == Fl.f) = false := (rfl)
@[simp] theorem fl5 : (Fl.f == Fl.f) = true := (rfl)
@[simp] theorem fl6 : (Fl.f == Fl.l) = false := (rfl)
/-! numbers -/
@[simp] theorem e_ltG (i j : Int) : pLtG (.int i) (.int j) = some (.bl (decide (i < j))) := (rfl)
@[simp] theorem e_leG (i j : Int) : pLeG (.int i) (.int j) = some (.bl (decide (i ≤ j))) := (rfl)
@[simp] theorem e_gtG (i j : Int) : pGtG (.int i) (.int j) = some (.bl (decide (j < i))) := (rfl)
@[simp] theorem e_geG (i j : Int) : pGeG (.int i) (.int j) = some (.bl (decide (j ≤ i))) := (rfl)
@[simp] theorem e_minG (i j : Int) : pMinG [.int i, .int j] = some (.int (if j < i then j else i)) := (rfl)
@[simp] theorem e_maxG (i j : Int) : pMaxG [.int i, .int j] = some (.int (if i < j then j else i)) := (rfl)
@[simp] theorem e_listG1 (g : Fl) (ds : List D) : pListG [.lst g ds] = if imms ds then some (.lst .m ds) else none := (rfl)
@[simp] theorem e_listG2 (ds : List D) : pListG [.tup ds] = if imms ds then some (.lst .m ds) else none := (rfl)
@[simp] theorem e_listG3 (g : Fl) (ks : List Key) (ds : List D) : pListG [.dct g ks ds] = some (.lst .m (ks.map keyD)) := (rfl)
@[simp] theorem e_dictG1 (g : Fl) (ks : List Key) (ds : List D) : pDictG [.dct g ks ds] = if imms ds then some (.dct .m ks ds) else none := (rfl)
@[simp] theorem e_dictG2 (g : Fl) (ds : List D) : pDictG [.lst g ds] = pDictP [.lst g ds] := (rfl)
@[simp] theorem e_divmod (i j : Int) : pDivmod [.int i, .int j] = if 0 < j ∧ j < 2 ^ 64 then some (.tup [.int (i / j), .int (i % j)]) else none := (rfl)
@[simp] theorem e_len3 (g : Fl) (ks : List Key) (ds : List D) : pLen [.dct g ks ds] = some (.int ks.length) := (rfl)
@[simp] theorem e_len4 (z : Str) : pLen [.str z] = if z.length ≤ sizeLine then some (.int z.length) else none := (rfl)
@[simp] theorem e_ix3 (g : Fl) (ks : List Key) (ds : List D) (y : D) : ixD (.dct g ks ds) y = y.key.bind fun k => lookD ks ds k := by
  cases y <;> rfl
@[simp] theorem e_getd (g : Fl) (ks : List Key) (ds : List D) (y x : D) : getD2 (.dct g ks ds) y x = y.key.map fun k => (lookD ks ds k).getD x := (rfl)
@[simp] theorem e_intat (ks : List Key) (ds : List D) (y : D) : intAt (.dct .m ks ds) y = y.key.bind fun k => match lookD ks ds k with
    | some (.int x) => some x
    | _ => none := (rfl)
/-! lists of alike things -/
@[simp] theorem imms_map {α : Type} {f : α → D} (h : ∀ x, (f x).imm = true) : ∀ xs : List α, imms (xs.map f) = true
  | [] => rfl
  | x :: xs => by simp [h x, imms_map h xs]
@[simp] theorem lends_map {α : Type} {f : α → D} (h : ∀ x, (f x).lend = f x) : ∀ xs : List α, lends (xs.map f) = xs.map f
  | [] => rfl
  | x :: xs => by simp [h x, lends_map h xs]
@[simp] theorem nols_map {α : Type} {f : α → D} (h : ∀ x, (f x).nol = true) : ∀ xs : List α, nols (xs.map f) = true
  | [] => rfl
  | x :: xs => by simp [h x, nols_map h xs]
@[simp] theorem imms_app : ∀ (xs ys : List D), imms (xs ++ ys) = (imms xs && imms ys)
  | [], ys => by simp
  | x :: xs, ys => by simp [imms_app xs ys, Bool.and_assoc]
@[simp] theorem nols_app : ∀ (xs ys : List D), nols (xs ++ ys) = (nols xs && nols ys)
  | [], ys => by simp
  | x :: xs, ys => by simp [nols_app xs ys, Bool.and_assoc]
@[simp] theorem lends_app : ∀ (xs ys : List D), lends (xs ++ ys) = lends xs ++ lends ys
  | [], ys => by simp
  | x :: xs, ys => by simp [lends_app xs ys]
end
/-! ### dicts by a function of their keys -/
section
variable {κ : Type} [DecidableEq κ] (kf : κ → Key) (hk : ∀ a b, kf a = kf b → a = b)
def up1 (g : κ → D) (n : κ) (x : D) : κ → D := fun m => if m = n then x else g m
include hk
theorem lookK_fd : ∀ (ns : List κ) (g : κ → D) (n : κ), lookD (ns.map kf) (ns.map g) (kf n) = if n ∈ ns then some (g n) else none
  | [], g, n => by simp [lookD]
  | m :: ns, g, n => by
    simp only [List.map_cons, lookD]
    by_cases h : m = n
    · subst h; simp
    · rw [if_neg (fun z => h (hk _ _ z)), lookK_fd ns g n]
      have : n ≠ m := fun z => h z.symm
      simp [this]
theorem idxK_fd : ∀ (ns : List κ) (n : κ), idxK (ns.map kf) (kf n) = if n ∈ ns then some (ns.findIdx (· == n)) else none
  | [], n => by simp [idxK]
  | m :: ns, n => by
    simp only [List.map_cons, idxK]
    by_cases h : m = n
    · subst h; simp [List.findIdx_cons]
    · rw [if_neg (fun z => h (hk _ _ z)), idxK_fd ns n]
      have h2 : n ≠ m := fun z => h z.symm
      by_cases h3 : n ∈ ns
      · have hb : (m == n) = false := by simpa using h
        simp [h3, List.findIdx_cons, hb]
      · simp [h3, h2]
omit hk in
theorem set_find : ∀ (ns : List κ) (g : κ → D) (n : κ) (x : D), ns.Nodup → n ∈ ns → (ns.map g).set (ns.findIdx (· == n)) x = ns.map (up1 g n x)
  | [], g, n, x, _, h => by cases h
  | m :: ns, g, n, x, nd, h => by
    have nd' := List.nodup_cons.mp nd
    by_cases e : m = n
    · subst e
      have : ns.map g = ns.map (up1 g m x) := List.map_congr_left fun y hy => by
        have : y ≠ m := fun z => nd'.1 (z ▸ hy)
        simp [up1, this]
      simp [List.findIdx_cons, up1, this]
    · have h2 : n ∈ ns := (List.mem_cons.mp h).resolve_left fun z => e z.symm
      have ih := set_find ns g n x nd'.2 h2
      have hb : (m == n) = false := by simpa using e
      simp [List.findIdx_cons, hb, ih, up1, e]
theorem put_fd {ns : List κ} {g : κ → D} {n : κ} {x : D} (nd : ns.Nodup) (h : n ∈ ns) : putD (ns.map kf) (ns.map g) (kf n) x = .dct .m (ns.map kf) (ns.map (up1 g n x)) := by
  unfold putD
  rw [idxK_fd kf hk, if_pos h]
  simp only
  rw [set_find ns g n x nd h]
end
section
variable {ns : List Str} {g : Str → D} {n : Str} {x : D} {fl : Fl}
theorem inr_inj : ∀ a b : Str, (Sum.inr a : Key) = Sum.inr b → a = b := fun a b h => by cases h; rfl
theorem inl_inj : ∀ a b : Int, (Sum.inl a : Key) = Sum.inl b → a = b := fun a b h => by cases h; rfl
@[simp] theorem look_fd : lookD (ns.map Sum.inr) (ns.map g) (Sum.inr n) = if n ∈ ns then some (g n) else none := lookK_fd Sum.inr inr_inj ns g n
theorem st_fd (nd : ns.Nodup) (h : n ∈ ns) (hl : ns.length < sizeLine) : stD (.dct .m (ns.map Sum.inr) (ns.map g)) (.str n) x = some (.dct .m (ns.map Sum.inr) (ns.map (up1 g n x))) := by
  simp [stD, hl, put_fd Sum.inr inr_inj nd h]
end
end VS

namespace VS
open PySem
/-! ### who hangs together, by how many steps -/
abbrev J := Str × Str × Int
inductive Reach (js : List J) : Str → Str → Int → Prop
  | refl (a : Str) : Reach js a a 0
  | fwd {a b c : Str} {o s : Int} : Reach js a b o → (b, c, s) ∈ js → Reach js a c (o + s)
  | bwd {a b c : Str} {o s : Int} : Reach js a b o → (c, b, s) ∈ js → Reach js a c (o - s)
def Conn (js : List J) (a b : Str) : Prop := ∃ o, Reach js a b o
section
variable {js js' : List J} {a b c : Str} {o o' s : Int}
theorem Reach.trans (h : Reach js a b o) (h' : Reach js b c o') : Reach js a c (o + o') := by
  induction h' with
  | refl => simpa using h
  | fwd r m ih => have := Reach.fwd (ih) m; rwa [Int.add_assoc] at this
  | bwd r m ih => have := Reach.bwd (ih) m; rwa [Int.add_sub_assoc] at this
theorem Reach.symm (h : Reach js a b o) : Reach js b a (-o) := by
  induction h with
  | refl => exact .refl _
  | @fwd b c o s r m ih =>
    have := (Reach.bwd (.refl c) m).trans ih
    have e : (0 : Int) - s + -o = -(o + s) := by omega
    rwa [e] at this
  | @bwd b c o s r m ih =>
    have := (Reach.fwd (.refl c) m).trans ih
    have e : (0 : Int) + s + -o = -(o - s) := by omega
    rwa [e] at this
theorem Reach.mono (h : Reach js a b o) (hm : ∀ j ∈ js, j ∈ js') : Reach js' a b o := by
  induction h with
  | refl => exact .refl _
  | fwd r m ih => exact .fwd ih (hm _ m)
  | bwd r m ih => exact .bwd ih (hm _ m)
theorem Reach.one (m : (a, b, s) ∈ js) : Reach js a b s := by have := Reach.fwd (.refl a) m; simpa using this
theorem Conn.refl (a : Str) : Conn js a a := ⟨0, .refl a⟩
theorem Conn.symm (h : Conn js a b) : Conn js b a := h.elim fun o r => ⟨-o, r.symm⟩
theorem Conn.trans (h : Conn js a b) (h' : Conn js b c) : Conn js a c := h.elim fun o r => h'.elim fun o' r' => ⟨o + o', r.trans r'⟩
theorem Conn.mono (h : Conn js a b) (hm : ∀ j ∈ js, j ∈ js') : Conn js' a b := h.elim fun o r => ⟨o, r.mono hm⟩
/-- one joining more -/
theorem conn_snoc {x y : Str} : Conn (js ++ [(a, b, s)]) x y ↔ Conn js x y ∨ (Conn js x a ∧ Conn js b y) ∨ (Conn js x b ∧ Conn js a y) := by
  constructor
  · rintro ⟨o, r⟩
    induction r with
    | refl => exact .inl (.refl _)
    | @fwd p q o s' r m ih =>
      rcases List.mem_append.mp m with m | m
      · have h1 : Conn js p q := ⟨_, .one m⟩
        rcases ih with h | ⟨h, h'⟩ | ⟨h, h'⟩
        · exact .inl (h.trans h1)
        · exact .inr (.inl ⟨h, h'.trans h1⟩)
        · exact .inr (.inr ⟨h, h'.trans h1⟩)
      · simp at m
        obtain ⟨rfl, rfl, rfl⟩ := m
        rcases ih with h | ⟨h, h'⟩ | ⟨h, h'⟩
        · exact .inr (.inl ⟨h, .refl _⟩)
        · exact .inr (.inl ⟨h, .refl _⟩)
        · exact .inl h
    | @bwd p q o s' r m ih =>
      rcases List.mem_append.mp m with m | m
      · have h1 : Conn js p q := Conn.symm ⟨_, .one m⟩
        rcases ih with h | ⟨h, h'⟩ | ⟨h, h'⟩
        · exact .inl (h.trans h1)
        · exact .inr (.inl ⟨h, h'.trans h1⟩)
        · exact .inr (.inr ⟨h, h'.trans h1⟩)
      · simp at m
        obtain ⟨rfl, rfl, rfl⟩ := m
        rcases ih with h | ⟨h, h'⟩ | ⟨h, h'⟩
        · exact .inr (.inr ⟨h, .refl _⟩)
        · exact .inl h
        · exact .inr (.inr ⟨h, .refl _⟩)
  · have hm : ∀ j ∈ js, j ∈ js ++ [(a, b, s)] := fun j h => List.mem_append_left _ h
    have h1 : Conn (js ++ [(a, b, s)]) a b := ⟨s, .one (by simp)⟩
    rintro (h | ⟨h, h'⟩ | ⟨h, h'⟩)
    · exact h.mono hm
    · exact (h.mono hm).trans (h1.trans (h'.mono hm))
    · exact (h.mono hm).trans (h1.symm.trans (h'.mono hm))
/-- numbers by which all steps come out, counted by t -/
def Pot (t : Int) (js : List J) (p : Str → Int) : Prop := ∀ a b s, (a, b, s) ∈ js → t ∣ p b - p a - s
theorem Pot.reach {t : Int} {p : Str → Int} (hp : Pot t js p) (h : Reach js a b o) : t ∣ p b - p a - o := by
  induction h with
  | refl => simp
  | @fwd b c o s r m ih =>
    have h1 := hp _ _ _ m
    have e : p c - p a - (o + s) = (p c - p b - s) + (p b - p a - o) := by omega
    rw [e]; exact Int.dvd_add h1 ih
  | @bwd b c o s r m ih =>
    have h1 := hp _ _ _ m
    have e : p c - p a - (o - s) = (p b - p a - o) - (p b - p c - s) := by omega
    rw [e]; exact Int.dvd_sub ih h1
def cnt (t n : Int) : Int := if t = 0 then n else n % t
theorem cnt_eq {t m n : Int} : cnt t m = cnt t n ↔ t ∣ m - n := by
  unfold cnt
  by_cases h : t = 0
  · subst h; simp only [if_pos]; rw [Int.zero_dvd]; omega
  · simp only [if_neg h]; rw [Int.emod_eq_emod_iff_emod_sub_eq_zero, Int.dvd_iff_emod_eq_zero]
/-- a joining stays within the names -/
def Within (ns : List Str) (js : List J) : Prop := ∀ a b s, (a, b, s) ∈ js → a ∈ ns ∧ b ∈ ns
theorem Reach.mem {ns : List Str} (w : Within ns js) (h : Reach js a b o) (ha : a ∈ ns) : b ∈ ns := by
  induction h with
  | refl => exact ha
  | fwd r m ih => exact (w _ _ _ m).2
  | bwd r m ih => exact (w _ _ _ m).1
theorem Conn.mem {ns : List Str} (w : Within ns js) (h : Conn js a b) (ha : a ∈ ns) : b ∈ ns := h.elim fun _ r => r.mem w ha
end
end VS

set_option maxRecDepth 100000
namespace VS
open PySem L2 SeqAt PySem.Spec PyProof.Rows
/-! ### slices, items -/
theorem cut_take {ds : List D} {n : Int} (h : 0 ≤ n) : cutD ds none (some n) = ds.take n.toNat := by
  obtain ⟨k, rfl⟩ := Int.eq_ofNat_of_zero_le h
  unfold cutD
  rw [HT.sIx_none, HT.sIx_nat]
  simp only [Int.toNat_natCast, List.drop_zero, Nat.sub_zero]
  by_cases hl : k ≤ ds.length
  · rw [Nat.min_eq_left hl]
  · rw [Nat.min_eq_right (by omega), List.take_of_length_le (Nat.le_refl _), List.take_of_length_le (by omega)]
theorem cut_drop {ds : List D} {n : Int} (h : 0 ≤ n) : cutD ds (some n) none = ds.drop n.toNat := by
  obtain ⟨k, rfl⟩ := Int.eq_ofNat_of_zero_le h
  unfold cutD
  rw [HT.sIx_none, HT.sIx_nat]
  simp only [Int.toNat_natCast]
  by_cases hl : k ≤ ds.length
  · rw [Nat.min_eq_left hl, List.take_of_length_le (by simp)]
  · rw [Nat.min_eq_right (by omega), List.drop_of_length_le (Nat.le_refl _), List.drop_of_length_le (by omega)]; simp
theorem atI_map {α : Type} {f : α → D} {xs : List α} {r : Int} (h0 : 0 ≤ r) (h1 : r < xs.length) : ∃ (x : α), x ∈ xs ∧ xs[r.toNat]? = some x ∧ atI (xs.map f) r = some (f x) := by
  have hn : r.toNat < xs.length := by omega
  have e : r = ((r.toNat : Nat) : Int) := by omega
  have e2 := atI_nat (xs := xs.map f) (k := r.toNat) (by simpa using hn)
  rw [← e] at e2
  exact ⟨xs[r.toNat], List.getElem_mem hn, by simp [hn], by rw [e2]; simp [hn]⟩
theorem atI_last' {α : Type} (xs : List α) (x : α) : atI (xs ++ [x]) (-1) = some x := by
  unfold atI ixN
  rw [if_neg (by omega), if_pos (by simp; omega)]
  have e : (-1 + ((xs.length : Int) + 1)).toNat = xs.length := by omega
  simp [e]
/-! ### dicts made of pairs -/
theorem putP_new {ks : List Key} {ds : List D} {k : Key} {x : D} (h : k ∉ ks) : putP (ks, ds) k x = (ks ++ [k], ds ++ [x]) := by
  unfold putP
  have : idxK ks k = none := by
    cases q : idxK ks k with
    | none => rfl
    | some j => exact absurd (List.mem_of_getElem? (idx_at q)) h
  simp [this]
theorem mkD_nd : ∀ (ps : List (Key × D)) (kd : List Key × List D), (kd.1 ++ ps.map (·.1)).Nodup → ps.foldl (fun acc p => putP acc p.1 p.2) kd = (kd.1 ++ ps.map (·.1), kd.2 ++ ps.map (·.2))
  | [], kd, _ => by simp
  | p :: ps, kd, h => by
    have hp : p.1 ∉ kd.1 := fun z => (List.nodup_append.mp h).2.2 p.1 z p.1 (by simp) rfl
    have e := putP_new (ds := kd.2) (x := p.2) hp
    have e' : putP kd p.1 p.2 = (kd.1 ++ [p.1], kd.2 ++ [p.2]) := e
    rw [List.foldl_cons, e', mkD_nd ps _ (by simpa using h)]
    simp
theorem dict_fd {ns : List Str} {g : Str → D} {fl : Fl} (nd : ns.Nodup) (hi : ∀ n ∈ ns, (g n).imm = true) : pDictP [.lst fl (ns.map fun n => .tup [.str n, g n])] = some (.dct .m (ns.map Sum.inr) (ns.map g)) := by
  have h1 : imms (ns.map fun n => D.tup [.str n, g n]) = true := by
    rw [imms_all, List.all_eq_true]
    intro d hd
    obtain ⟨n, hn, rfl⟩ := List.mem_map.mp hd
    simp [hi n hn]
  have h2 : ∀ ns : List Str, pairsD (ns.map fun n => D.tup [.str n, g n]) = some (ns.map fun n => (Sum.inr n, g n)) := fun ns => by
    induction ns with
    | nil => rfl
    | cons n ns ih => simp [pairsD, ih]
  have h3 : ((ns.map fun n => ((Sum.inr n : Key), g n)).map (·.1)).Nodup := by
    rw [List.map_map]
    exact List.Pairwise.map _ (fun a b h e => h (inr_inj _ _ e)) nd
  unfold pDictP
  simp only [h1, if_true, h2, Option.map_some]
  have := mkD_nd (ns.map fun n => ((Sum.inr n : Key), g n)) ([], []) (by simpa using h3)
  have e : mkD (ns.map fun n => ((Sum.inr n : Key), g n)) = (ns.map Sum.inr, ns.map g) := by
    unfold mkD; rw [this]; simp [List.map_map, Function.comp_def]
  rw [e]
/-! ### sorted names -/
theorem pyO_str (s : Str) : pyO (.str s) = .str s := rfl
theorem pys_strs : ∀ ns : List Str, pys (ns.map D.str) = some (ns.map PyData.str)
  | [] => rfl
  | n :: ns => by simp [pys, D.py, pys_strs ns]
theorem sortOk_strs {ns : List Str} (h : ns.length ≤ 1000) : sortOk (ns.map D.str) = true := by
  unfold sortOk
  simp only [Bool.and_eq_true]
  refine ⟨⟨⟨⟨⟨by rw [pys_strs]; rfl, by simp⟩, ?_⟩, ?_⟩, ?_⟩, by simpa using sz_ok h⟩
  · simp [alikeB, pyO_str, PySem.W.alike]
  · simp [sortableB, pyO_str]
  · simp [shallowB, pyO_str, PyData.depth]
/-- texts in their order -/
def leS (a b : Str) : Bool := leD (.str a) (.str b)
def sortS (ns : List Str) : List Str := ns.mergeSort leS
theorem sortS_perm (ns : List Str) : (sortS ns).Perm ns := List.mergeSort_perm _ _
theorem sortG_strs {g : Fl} {ns : List Str} (h : ns.length ≤ 1000) : pSortedG [.lst g (ns.map D.str)] = some (.lst .m ((sortS ns).map D.str)) := by
  unfold pSortedG
  simp only [collD, Option.bind_some, sortOk_strs h, if_true]
  unfold sortS
  rw [List.map_mergeSort (f := D.str) (r := leS) (s := leD) fun a _ b _ => rfl]
theorem sortG_tups {ns : List Str} (h : ns.length ≤ 1000) : pSortedG [.tup (ns.map D.str)] = some (.lst .m ((sortS ns).map D.str)) := by
  unfold pSortedG
  simp only [collD, Option.bind_some, sortOk_strs h, if_true]
  unfold sortS
  rw [List.map_mergeSort (f := D.str) (r := leS) (s := leD) fun a _ b _ => rfl]
/-! ### whiles -/
theorem wh_true {ct : CT} {body : CS} {n : Nat} {env env1 env2 : Env} (h1 : ct env = .ok true env1) (h2 : body env1 = .nx env2) : whRun ct body (n + 1) env = whRun ct body n env2 := by simp [whRun, h1, h2]
theorem wh_false {ct : CT} {body : CS} {n : Nat} {env env1 : Env} (h1 : ct env = .ok false env1) : whRun ct body (n + 1) env = .nx env1 := by simp [whRun, h1]
theorem wh_rt {ct : CT} {body : CS} {n : Nat} {env env1 env2 : Env} {d : D} (h1 : ct env = .ok true env1) (h2 : body env1 = .rt d env2) : whRun ct body (n + 1) env = .rt d env2 := by simp [whRun, h1, h2]
/-- a loop over alike items, by a fold -/
theorem for_fold {α S : Type} {f : α → D} {E : S → Env} {step : S → α → S} {g : D → Env → Option Env} {body : CS} : ∀ {xs : List α} {s : S} (P : List α → S → Prop), P xs s → (∀ x xs s, P (x :: xs) s → P xs (step s x) ∧ ∃ env1, g (f x) (E s) = some env1 ∧ body env1 = .nx (E (step s x))) →
    forRun g body (xs.map f) (E s) = .nx (E (xs.foldl step s)) ∧ P [] (xs.foldl step s)
  | [], s, P, h0, _ => ⟨rfl, h0⟩
  | x :: xs, s, P, h0, h => by
    obtain ⟨h1, env1, h2, h3⟩ := h x xs s h0
    obtain ⟨k1, k2⟩ := for_fold (xs := xs) P h1 h
    exact ⟨by rw [List.map_cons, for_nx h2 h3]; exact k1, k2⟩
end VS

set_option maxRecDepth 100000
namespace VS
open PySem L2 SeqAt PySem.Spec PyProof.Rows
theorem sz_lt {n : Nat} (h : n ≤ 1000000) : n < sizeLine :=
  have e : sizeLine = 16777216 := by decide +kernel
  by omega
theorem sz_le {n : Nat} (h : n ≤ 1000000) : n ≤ sizeLine := Nat.le_of_lt (sz_lt h)
theorem for_inv {α : Type} {f : α → D} {g : D → Env → Option Env} {body : CS} (P : List α → Env → Prop) (h : ∀ x xs env, P (x :: xs) env → ∃ env1 env2, g (f x) env = some env1 ∧ body env1 = .nx env2 ∧ P xs env2) : ∀ (xs : List α) (env : Env), P xs env → ∃ env', forRun g body (xs.map f) env = .nx env' ∧ P [] env'
  | [], env, h0 => ⟨env, rfl, h0⟩
  | x :: xs, env, h0 => by
    obtain ⟨env1, env2, h1, h2, h3⟩ := h x xs env h0
    obtain ⟨env', k1, k2⟩ := for_inv P h xs env2 h3
    exact ⟨env', by rw [List.map_cons, for_nx h1 h2]; exact k1, k2⟩
theorem wh_inv {ct : CT} {body : CS} (P : Nat → Env → Prop) (Q : Env → Prop) (h : ∀ k env, P k env → (∃ env1, ct env = .ok false env1 ∧ Q env1) ∨ (∃ k' env1 env2, k = k' + 1 ∧ ct env = .ok true env1 ∧ body env1 = .nx env2 ∧ P k' env2)) : ∀ (k n : Nat) (env : Env), k < n → P k env → ∃ env', whRun ct body n env = .nx env' ∧ Q env'
  | k, 0, env, hn, _ => absurd hn (by omega)
  | k, n + 1, env, hn, h0 => by
    rcases h k env h0 with ⟨env1, h1, h2⟩ | ⟨k', env1, env2, rfl, h1, h2, h3⟩
    · exact ⟨env1, wh_false h1, h2⟩
    · obtain ⟨env', k1, k2⟩ := wh_inv P Q h k' n env2 (by omega) h3
      exact ⟨env', by rw [wh_true h1 h2]; exact k1, k2⟩
section
variable {κ : Type} [DecidableEq κ] (kf : κ → Key) (hk : ∀ a b, kf a = kf b → a = b)
include hk
theorem put_new {ns : List κ} {g : κ → D} {n : κ} {x : D} (h : n ∉ ns) : putD (ns.map kf) (ns.map g) (kf n) x = .dct .m ((ns ++ [n]).map kf) ((ns ++ [n]).map (up1 g n x)) := by
  unfold putD
  rw [idxK_fd kf hk, if_neg h]
  simp only [List.map_append, List.map_cons, List.map_nil]
  have e : ns.map (up1 g n x) = ns.map g := List.map_congr_left fun y hy => by
    have : y ≠ n := fun z => h (z ▸ hy)
    simp [up1, this]
  rw [e]; simp [up1]
end
theorem st_new {ns : List Str} {g : Str → D} {n : Str} {x : D} (h : n ∉ ns) (hl : ns.length < sizeLine) : stD (.dct .m (ns.map Sum.inr) (ns.map g)) (.str n) x = some (.dct .m ((ns ++ [n]).map Sum.inr) ((ns ++ [n]).map (up1 g n x))) := by
  have := put_new Sum.inr inr_inj (g := g) (x := x) h
  simp only [stD, e_keyS, Option.bind_some, List.length_map, hl, if_true, Option.map_some, this]
/-! ### what kind a thing is (printed) -/
@[simp] theorem isi_non_bool : pIsi [.non, .ty "bool"] = some (.bl false) := (rfl)
@[simp] theorem isi_non_int : pIsi [.non, .ty "int"] = some (.bl false) := (rfl)
@[simp] theorem isi_non_str : pIsi [.non, .ty "str"] = some (.bl false) := (rfl)
@[simp] theorem isi_non_list : pIsi [.non, .ty "list"] = some (.bl false) := (rfl)
@[simp] theorem isi_non_tuple : pIsi [.non, .ty "tuple"] = some (.bl false) := (rfl)
@[simp] theorem isi_non_dict : pIsi [.non, .ty "dict"] = some (.bl false) := (rfl)
@[simp] theorem isi_non_list_tuple : pIsi [.non, .tup [.ty "list", .ty "tuple"]] = some (.bl false) := (rfl)
@[simp] theorem isi_non_tuple_list : pIsi [.non, .tup [.ty "tuple", .ty "list"]] = some (.bl false) := (rfl)
@[simp] theorem isi_non_int_str : pIsi [.non, .tup [.ty "int", .ty "str"]] = some (.bl false) := (rfl)
@[simp] theorem isi_non_list_dict : pIsi [.non, .tup [.ty "list", .ty "dict"]] = some (.bl false) := (rfl)
@[simp] theorem is_bl (b : Bool) : pIs (.bl b) .non = some (.bl false) := (rfl)
@[simp] theorem isn_bl (b : Bool) : pIsNot (.bl b) .non = some (.bl true) := (rfl)
@[simp] theorem isi_bl_bool (b : Bool) : pIsi [(.bl b), .ty "bool"] = some (.bl true) := (rfl)
@[simp] theorem isi_bl_int (b : Bool) : pIsi [(.bl b), .ty "int"] = some (.bl true) := (rfl)
@[simp] theorem isi_bl_str (b : Bool) : pIsi [(.bl b), .ty "str"] = some (.bl false) := (rfl)
@[simp] theorem isi_bl_list (b : Bool) : pIsi [(.bl b), .ty "list"] = some (.bl false) := (rfl)
@[simp] theorem isi_bl_tuple (b : Bool) : pIsi [(.bl b), .ty "tuple"] = some (.bl false) := (rfl)
@[simp] theorem isi_bl_dict (b : Bool) : pIsi [(.bl b), .ty "dict"] = some (.bl false) := (rfl)
@[simp] theorem isi_bl_list_tuple (b : Bool) : pIsi [(.bl b), .tup [.ty "list", .ty "tuple"]] = some (.bl false) := (rfl)
@[simp] theorem isi_bl_tuple_list (b : Bool) : pIsi [(.bl b), .tup [.ty "tuple", .ty "list"]] = some (.bl false) := (rfl)
@[simp] theorem isi_bl_int_str (b : Bool) : pIsi [(.bl b), .tup [.ty "int", .ty "str"]] = some (.bl true) := (rfl)
@[simp] theorem isi_bl_list_dict (b : Bool) : pIsi [(.bl b), .tup [.ty "list", .ty "dict"]] = some (.bl false) := (rfl)
@[simp] theorem is_int (i : Int) : pIs (.int i) .non = some (.bl false) := (rfl)
@[simp] theorem isn_int (i : Int) : pIsNot (.int i) .non = some (.bl true) := (rfl)
@[simp] theorem isi_int_bool (i : Int) : pIsi [(.int i), .ty "bool"] = some (.bl false) := (rfl)
@[simp] theorem isi_int_int (i : Int) : pIsi [(.int i), .ty "int"] = some (.bl true) := (rfl)
@[simp] theorem isi_int_str (i : Int) : pIsi [(.int i), .ty "str"] = some (.bl false) := (rfl)
@[simp] theorem isi_int_list (i : Int) : pIsi [(.int i), .ty "list"] = some (.bl false) := (rfl)
@[simp] theorem isi_int_tuple (i : Int) : pIsi [(.int i), .ty "tuple"] = some (.bl false) := (rfl)
@[simp] theorem isi_int_dict (i : Int) : pIsi [(.int i), .ty "dict"] = some (.bl false) := (rfl)
@[simp] theorem isi_int_list_tuple (i : Int) : pIsi [(.int i), .tup [.ty "list", .ty "tuple"]] = some (.bl false) := (rfl)
@[simp] theorem isi_int_tuple_list (i : Int) : pIsi [(.int i), .tup [.ty "tuple", .ty "list"]] = some (.bl false) := (rfl)
@[simp] theorem isi_int_int_str (i : Int) : pIsi [(.int i), .tup [.ty "int", .ty "str"]] = some (.bl true) := (rfl)
@[simp] theorem isi_int_list_dict (i : Int) : pIsi [(.int i), .tup [.ty "list", .ty "dict"]] = some (.bl false) := (rfl)
@[simp] theorem is_str (s : Str) : pIs (.str s) .non = some (.bl false) := (rfl)
@[simp] theorem isn_str (s : Str) : pIsNot (.str s) .non = some (.bl true) := (rfl)
@[simp] theorem isi_str_bool (s : Str) : pIsi [(.str s), .ty "bool"] = some (.bl false) := (rfl)
@[simp] theorem isi_str_int (s : Str) : pIsi [(.str s), .ty "int"] = some (.bl false) := (rfl)
@[simp] theorem isi_str_str (s : Str) : pIsi [(.str s), .ty "str"] = some (.bl true) := (rfl)
@[simp] theorem isi_str_list (s : Str) : pIsi [(.str s), .ty "list"] = some (.bl false) := (rfl)
@[simp] theorem isi_str_tuple (s : Str) : pIsi [(.str s), .ty "tuple"] = some (.bl false) := (rfl)
@[simp] theorem isi_str_dict (s : Str) : pIsi [(.str s), .ty "dict"] = some (.bl false) := (rfl)
@[simp] theorem isi_str_list_tuple (s : Str) : pIsi [(.str s), .tup [.ty "list", .ty "tuple"]] = some (.bl false) := (rfl)
@[simp] theorem isi_str_tuple_list (s : Str) : pIsi [(.str s), .tup [.ty "tuple", .ty "list"]] = some (.bl false) := (rfl)
@[simp] theorem isi_str_int_str (s : Str) : pIsi [(.str s), .tup [.ty "int", .ty "str"]] = some (.bl true) := (rfl)
@[simp] theorem isi_str_list_dict (s : Str) : pIsi [(.str s), .tup [.ty "list", .ty "dict"]] = some (.bl false) := (rfl)
@[simp] theorem is_tup (ds : List D) : pIs (.tup ds) .non = some (.bl false) := (rfl)
@[simp] theorem isn_tup (ds : List D) : pIsNot (.tup ds) .non = some (.bl true) := (rfl)
@[simp] theorem isi_tup_bool (ds : List D) : pIsi [(.tup ds), .ty "bool"] = some (.bl false) := (rfl)
@[simp] theorem isi_tup_int (ds : List D) : pIsi [(.tup ds), .ty "int"] = some (.bl false) := (rfl)
@[simp] theorem isi_tup_str (ds : List D) : pIsi [(.tup ds), .ty "str"] = some (.bl false) := (rfl)
@[simp] theorem isi_tup_list (ds : List D) : pIsi [(.tup ds), .ty "list"] = some (.bl false) := (rfl)
@[simp] theorem isi_tup_tuple (ds : List D) : pIsi [(.tup ds), .ty "tuple"] = some (.bl true) := (rfl)
@[simp] theorem isi_tup_dict (ds : List D) : pIsi [(.tup ds), .ty "dict"] = some (.bl false) := (rfl)
@[simp] theorem isi_tup_list_tuple (ds : List D) : pIsi [(.tup ds), .tup [.ty "list", .ty "tuple"]] = some (.bl true) := (rfl)
@[simp] theorem isi_tup_tuple_list (ds : List D) : pIsi [(.tup ds), .tup [.ty "tuple", .ty "list"]] = some (.bl true) := (rfl)
@[simp] theorem isi_tup_int_str (ds : List D) : pIsi [(.tup ds), .tup [.ty "int", .ty "str"]] = some (.bl false) := (rfl)
@[simp] theorem isi_tup_list_dict (ds : List D) : pIsi [(.tup ds), .tup [.ty "list", .ty "dict"]] = some (.bl false) := (rfl)
@[simp] theorem is_lst (g : Fl) (ds : List D) : pIs (.lst g ds) .non = some (.bl false) := (rfl)
@[simp] theorem isn_lst (g : Fl) (ds : List D) : pIsNot (.lst g ds) .non = some (.bl true) := (rfl)
@[simp] theorem isi_lst_bool (g : Fl) (ds : List D) : pIsi [(.lst g ds), .ty "bool"] = some (.bl false) := (rfl)
@[simp] theorem isi_lst_int (g : Fl) (ds : List D) : pIsi [(.lst g ds), .ty "int"] = some (.bl false) := (rfl)
@[simp] theorem isi_lst_str (g : Fl) (ds : List D) : pIsi [(.lst g ds), .ty "str"] = some (.bl false) := (rfl)
@[simp] theorem isi_lst_list (g : Fl) (ds : List D) : pIsi [(.lst g ds), .ty "list"] = some (.bl true) := (rfl)
@[simp] theorem isi_lst_tuple (g : Fl) (ds : List D) : pIsi [(.lst g ds), .ty "tuple"] = some (.bl false) := (rfl)
@[simp] theorem isi_lst_dict (g : Fl) (ds : List D) : pIsi [(.lst g ds), .ty "dict"] = some (.bl false) := (rfl)
@[simp] theorem isi_lst_list_tuple (g : Fl) (ds : List D) : pIsi [(.lst g ds), .tup [.ty "list", .ty "tuple"]] = some (.bl true) := (rfl)
@[simp] theorem isi_lst_tuple_list (g : Fl) (ds : List D) : pIsi [(.lst g ds), .tup [.ty "tuple", .ty "list"]] = some (.bl true) := (rfl)
@[simp] theorem isi_lst_int_str (g : Fl) (ds : List D) : pIsi [(.lst g ds), .tup [.ty "int", .ty "str"]] = some (.bl false) := (rfl)
@[simp] theorem isi_lst_list_dict (g : Fl) (ds : List D) : pIsi [(.lst g ds), .tup [.ty "list", .ty "dict"]] = some (.bl true) := (rfl)
@[simp] theorem is_dct (g : Fl) (ks : List Key) (ds : List D) : pIs (.dct g ks ds) .non = some (.bl false) := (rfl)
@[simp] theorem isn_dct (g : Fl) (ks : List Key) (ds : List D) : pIsNot (.dct g ks ds) .non = some (.bl true) := (rfl)
@[simp] theorem isi_dct_bool (g : Fl) (ks : List Key) (ds : List D) : pIsi [(.dct g ks ds), .ty "bool"] = some (.bl false) := (rfl)
@[simp] theorem isi_dct_int (g : Fl) (ks : List Key) (ds : List D) : pIsi [(.dct g ks ds), .ty "int"] = some (.bl false) := (rfl)
@[simp] theorem isi_dct_str (g : Fl) (ks : List Key) (ds : List D) : pIsi [(.dct g ks ds), .ty "str"] = some (.bl false) := (rfl)
@[simp] theorem isi_dct_list (g : Fl) (ks : List Key) (ds : List D) : pIsi [(.dct g ks ds), .ty "list"] = some (.bl false) := (rfl)
@[simp] theorem isi_dct_tuple (g : Fl) (ks : List Key) (ds : List D) : pIsi [(.dct g ks ds), .ty "tuple"] = some (.bl false) := (rfl)
@[simp] theorem isi_dct_dict (g : Fl) (ks : List Key) (ds : List D) : pIsi [(.dct g ks ds), .ty "dict"] = some (.bl true) := (rfl)
@[simp] theorem isi_dct_list_tuple (g : Fl) (ks : List Key) (ds : List D) : pIsi [(.dct g ks ds), .tup [.ty "list", .ty "tuple"]] = some (.bl false) := (rfl)
@[simp] theorem isi_dct_tuple_list (g : Fl) (ks : List Key) (ds : List D) : pIsi [(.dct g ks ds), .tup [.ty "tuple", .ty "list"]] = some (.bl false) := (rfl)
@[simp] theorem isi_dct_int_str (g : Fl) (ks : List Key) (ds : List D) : pIsi [(.dct g ks ds), .tup [.ty "int", .ty "str"]] = some (.bl false) := (rfl)
@[simp] theorem isi_dct_list_dict (g : Fl) (ks : List Key) (ds : List D) : pIsi [(.dct g ks ds), .tup [.ty "list", .ty "dict"]] = some (.bl true) := (rfl)
@[simp] theorem is_bb (a b : Bool) : pIs (.bl a) (.bl b) = some (.bl (decide (a = b))) := (rfl)
@[simp] theorem isn_bb (a b : Bool) : pIsNot (.bl a) (.bl b) = some (.bl (!decide (a = b))) := (rfl)
theorem has_fd {κ : Type} (kf : κ → Key) (hk : ∀ a b, kf a = kf b → a = b) {ns : List κ} {n : κ} : kf n ∈ ns.map kf ↔ n ∈ ns := by
  simp only [List.mem_map]
  constructor
  · rintro ⟨m, hm, e⟩; exact hk _ _ e ▸ hm
  · intro h; exact ⟨n, h, rfl⟩
end VS

set_option maxRecDepth 100000
namespace VS
open PySem PySem.W L2 SeqAt PySem.Spec PyProof.Rows
/-! ### d.update(xs), xs a list of pairs -/
def rUpdL (K : PySem.W.Frag) : V → List V → Hp → VK → Prop := fun x xs H Q => ∃ (d a : Addr) (kvs : List (Key × V)) (ps : List Addr) (more : List (Key × V)), x = V.ref d ∧ xs = [V.ref a] ∧ H d = some (.dK kvs) ∧ SqL K H a (ps.map V.ref) ∧ Paired (fun p kv => SqT K H p [kV kv.1, kv.2]) ps more ∧ kvs.length + more.length ≤ sizeLine ∧ Q .non (upd H d (.dK (mergeK kvs more)))
section
variable {X : Cx}
theorem choose_list {α β : Type} {R : Nat → α → β → Prop} : ∀ {xs : List α} (k : Nat), (∀ j x, xs[j]? = some x → ∃ y, R (k + j) x y) → ∃ ys : List β, ys.length = xs.length ∧ ∀ j x, xs[j]? = some x → ∃ y, ys[j]? = some y ∧ R (k + j) x y
  | [], k, _ => ⟨[], rfl, fun j x h => by simp at h⟩
  | x :: xs, k, h => by
    obtain ⟨y, hy⟩ := h 0 x rfl
    obtain ⟨ys, h1, h2⟩ := choose_list (xs := xs) (k + 1) fun j z hz => by
      obtain ⟨y, e⟩ := h (j + 1) z (by simpa using hz)
      exact ⟨y, by rw [show k + 1 + j = k + (j + 1) by omega]; exact e⟩
    refine ⟨y :: ys, by simp [h1], fun j z hz => ?_⟩
    cases j with
    | zero => simp at hz; subst hz; exact ⟨y, rfl, hy⟩
    | succ j =>
      obtain ⟨y', e1, e2⟩ := h2 j z (by simpa using hz)
      exact ⟨y', by simpa using e1, by rw [show k + (j + 1) = k + 1 + j by omega]; exact e2⟩
theorem mt_updL (hcalm : X.calm = true) : MtR X "dict.update" (rUpdL X.K) := by
  intro pins s σ H x xs v us Q I rx rxs h
  obtain ⟨d, a, kvs, ps, more, rfl, rfl, hd, hq, hp, hz, q⟩ := h
  obtain rfl : v = Value.ref d := rx
  obtain ⟨u, rfl, ru⟩ := vals1 rxs
  obtain rfl : u = Value.ref a := ru
  obtain ⟨z1, lo1, vs, rel, dd⟩ := dk_of I.hok hd
  have l1 : vs.length = kvs.length := (KV.length rel).symm
  obtain ⟨its, rv, pl, hzl⟩ := I.list hq
  have ei := refs_at rv
  subst ei
  obtain ⟨prs, relp, hl, hpr⟩ := pairs_of I hp
  have lm : prs.length = more.length := relp.length.symm
  obtain ⟨o, n, ho, hc, hdi, hdat⟩ := pl
  obtain ⟨ks, lk, hks⟩ := choose_list (R := fun j (q : Key × Value) (u : Value) => ∃ b, ps[j]? = some b ∧ (mixKind X.prog X.w).is q.1 u = true ∧ s.heap.IsTuple b #[u, q.2]) (xs := prs) 0 fun j q' e => by
    obtain ⟨b, u, e1, e2, e3⟩ := hpr j q' e
    exact ⟨u, b, by simpa using e1, e3, e2⟩
  let pv : List (Value × Value) := ks.zip (prs.map (·.2))
  have pvl : pv.length = prs.length := by simp [pv, lk]
  have pvg : ∀ j k w, pv[j]? = some (k, w) → ∃ (q : Key × Value) (b : Addr), prs[j]? = some q ∧ q.2 = w ∧ ps[j]? = some b ∧ (mixKind X.prog X.w).is q.1 k = true ∧ s.heap.IsTuple b #[k, w] := fun j k w e => by
    rw [List.getElem?_zip_eq_some] at e
    obtain ⟨e1, e2⟩ := e
    rw [List.getElem?_map] at e2
    obtain ⟨q, hq', rfl⟩ := Option.map_eq_some_iff.mp e2
    obtain ⟨u, e3, b, e4, e5, e6⟩ := hks j q hq'
    rw [e1] at e3; cases e3
    rw [Nat.zero_add] at e4
    exact ⟨q, b, hq', rfl, e4, e5, e6⟩
  have hTs : ∀ j b, ps[j]? = some b → ps.getD j 0 = b := fun j b e => by rw [List.getD_eq_getElem?_getD, e]; rfl
  have ok : (fun h => PlainSeq "list" h a (ps.map Value.ref).toArray ∧ PairItems h (ps.map Value.ref).toArray (fun j => ps.getD j 0) pv) s.heap := by
    refine ⟨⟨o, n, ho, hc, hdi, hdat⟩, by simp [pvl, hl], fun j k w e => ?_⟩
    obtain ⟨q, b, _, _, e4, _, e6⟩ := pvg j k w e
    show (List.map Value.ref ps).toArray[j]? = some (Value.ref (ps.getD j 0)) ∧ PairAt s.heap (ps.getD j 0) k w
    rw [hTs j b e4]
    exact ⟨by simp [e4], .inl e6⟩
  have hdf : d ∉ a :: (List.range pv.length).map fun j => ps.getD j 0 := fun hm => by
    have hdd := dd
    obtain ⟨ep, od, es, hod, ex, _⟩ := hdd.dictAt
    rcases List.mem_cons.mp hm with e | e
    · subst e
      rw [ho] at hod; cases hod
      rw [ex.1] at hc; exact absurd hc (by decide)
    · obtain ⟨j, hj, e⟩ := List.mem_map.mp e
      have hj := List.mem_range.mp hj
      obtain ⟨⟨k, w⟩, hkw⟩ : ∃ p, pv[j]? = some p := ⟨pv[j], List.getElem?_eq_getElem hj⟩
      obtain ⟨q, b, _, _, e4, _, ot, hot, hct, _⟩ := pvg j k w hkw
      have e : ps.getD j 0 = d := e
      rw [hTs j b e4] at e
      subst e
      rw [hot] at hod; cases hod
      rw [ex.1] at hct; exact absurd hct (by decide)
  refine call_update_pairs (knd := mixKind X.prog X.w) (acc := vs) (kvs := prs) (PairArg.list a (ps.map Value.ref).toArray (fun j => ps.getD j 0) pv) (I.ok.hd hcalm) ok hdf ⟨by rw [pvl], fun i key v hrel => ?_⟩ dd (by rw [pvl, lm, l1]; exact hz) fun h' tk hd' hk => ?_
  · obtain ⟨q, b, e1, e2, _, e5, _⟩ := pvg i key v hrel
    exact ⟨q.1, by rw [e1, ← e2], e5⟩
  · have rm := KV.merge relp rel
    have hlen : (mergeK kvs more).length ≤ sizeLine := by
      have := merged_length_le vs prs
      rw [KV.length rm]; omega
    refine ⟨.non, upd H d (.dK (mergeK kvs more)), I.write (t' := tk) ?_ (.inl rfl) (fun b ob hb e => hk b ob hb (by simp) e) ?_ (show ObjOk X.prog X.w _ _ _ (.dK (mergeK kvs more)) from ⟨hlen, lo1, _, rm, hd'⟩), rfl, q⟩
    · rw [hd]; trivial
    · obtain ⟨ep, dat⟩ := hd'.dictAt
      obtain ⟨ob, es, hob, _⟩ := dat
      exact ⟨ob, hob⟩
def mUpdL : D → List D → Option (D × D)
  | .dct .m ks ds, [.lst _ zs] => if imms ds && imms zs && decide (ks.length + zs.length ≤ sizeLine) then
      (pairsD zs).map fun ps => (.dct .m (ps.foldl (fun acc p => putP acc p.1 p.2) (ks, ds)).1 (ps.foldl (fun acc p => putP acc p.1 p.2) (ks, ds)).2, .non) else none
  | _, _ => none
theorem pairsD_len : ∀ {zs : List D} {ps : List (Key × D)}, pairsD zs = some ps → ps.length = zs.length
  | [], ps, h => by cases h; rfl
  | z :: zs, ps, h => by
    unfold pairsD at h
    split at h
    · rename_i he; cases he
    · rename_i k x ds' he
      cases he
      obtain ⟨ky, h1, h2⟩ := Option.bind_eq_some_iff.mp h
      obtain ⟨ps', h3, rfl⟩ := Option.map_eq_some_iff.mp h2
      simp [pairsD_len h3]
    · cases h
theorem mu_updL : MuOk X "dict" (rUpdL X.K) kdM mUpdL := by
  refine ⟨?_, ty_dict⟩
  intro C H v d fp vs ds fpa Q d' res hC hF r ra nd h k
  unfold mUpdL at h
  split at h
  case h_2 => cases h
  rename_i ks ds0 g zs
  split at h
  case isFalse => cases h
  rename_i hc
  simp only [Bool.and_eq_true, decide_eq_true_eq] at hc
  obtain ⟨⟨hi, hiz⟩, hz⟩ := hc
  obtain ⟨ps, hps, e⟩ := Option.map_eq_some_iff.mp h
  cases e
  obtain ⟨a, kvs, f1, f2, rfl, n, ⟨hks, hn⟩, rz, _, rfl⟩ := r
  obtain ⟨hH, rfl⟩ := n
  have z := rz.imm hi
  subst z
  obtain ⟨w, rfl, rx⟩ := reps1 ra
  obtain ⟨b, us, f, rfl, sq, rs⟩ := rep_list hC hF rx
  have z2 := rs.imm hiz
  subst z2
  obtain ⟨as, more, rfl, q2, q3, q4⟩ := pairs_rep hC hps hiz rs
  have m := Mono.upd (o := .dK (mergeK kvs more)) hH trivial
  obtain ⟨q1, q2', q3'⟩ := merge_rep (C := C) (H := H) (ps := ps) (kvs := more) (acc := kvs) (kd := (ks, ds0)) q3 q4 hks hn rz
  have lp := pairsD_len hps
  refine ⟨a, b, kvs, as, more, rfl, rfl, hH, sq, q2, ?_, ?_⟩
  · have e1 := congrArg List.length hks
    have e2 := congrArg List.length q3
    simp at e1 e2; omega
  · refine k _ .non [a] [] m (fun b ob hb hnb => ?_) ⟨a, _, [a], [], rfl, ⟨upd_same, rfl⟩, ⟨q1, q2'⟩, q3'.keep (fun b hb => nomatch hb) m, .inl rfl, rfl⟩ ⟨rfl, rfl⟩ (by simp) (fun b hb => ?_)
    · rw [upd_ne (fun z => hnb (by simp [z]))]; exact hb
    · simp at hb; subst hb; left; simp
variable {W : WX} {Ma Mb : List Nat} {o e : Expr} {es : List Expr} {cl : CL} {cs : CA} {i : Nat} {apos cpos : Pos}
theorem so_updL (hcalm : X.calm = true) (ho : SL X W i Ma o cl) (ha : SAO X W Mb (e :: es) cs)
    (hi : djB [i] Mb = true) (hbase : attributeBase o "update" X.env (eval o X.env) = eval o X.env)
    (hfew : ((backTo cpos (starEach (e :: es) X.env)).all (fun x => !x.1) && (backToKw cpos (keywordEach [] X.env)).all (fun x => x.1.isSome)
      && decide ((e :: es).length + ([] : List Keyword).length + (if ([] : List Keyword).isEmpty then 0 else 1) < 30)) = true)
    (hline : (apos.endLine == cpos.line) = true) (hs : starEach (e :: es) X.env = (false, eval e X.env) :: starEach es X.env) (hplain : (backTo cpos (starEach es X.env)).any (·.1) = false) :
    SO X W (Ma ++ (Mb ++ [i])) (.Call (.Attribute o "update" apos) (e :: es) [] cpos) (cMut i kdM mUpdL cl cs) :=
  so_mut mu_updL PySem.F.plainAttrs_dict PySem.F.slot_dict_update PySem.F.type_dict_update (mt_updL hcalm) ho ha hi hbase hfew hline hs hplain
/-! #### a method on a variable whose arguments look at that very variable -/
def cMutV (i : Nat) (kd : D → Bool) (mp : D → List D → Option (D × D)) (cs : CA) : CE := fun env => match env[i]? with
  | some (some d0) => if kd d0 then (cs env).bind fun ds env1 => (match env1[i]? with
    | some (some d) => (match mp d ds with
      | some dr => .ok dr.2 (env1.set i (some dr.1))
      | none => .err)
    | _ => .err) else .err
  | _ => .err
theorem mutv_go {T : String} {r : V → List V → Hp → VK → Prop} {kd : D → Bool} {mp : D → List D → Option (D × D)} {M2 : List Nat} (mu : MuOk X T r kd mp) {t2 : TA}
    (q2 : ∀ C fs env σ H tf Q, C.At X → Good C fs env σ H tf → PostAO W C M2 tf fs env σ H Q (cs env) → t2 σ H Q) {tt : TE}
    (htt : ∀ σ H Q, (tVar i σ H fun x H1 => (tyV X.K T x H1 ∧ t2 σ H1 fun xs H2 => r x xs H2 Q)) → tt σ H Q) :
    ∀ C fs env σ H tf Q, C.At X → Good C fs env σ H tf → PostO W C (M2 ++ [i]) tf fs env σ H Q (cMutV i kd mp cs env) → tt σ H Q := by
  intro C fs env σ H tf Q hC G po
  refine htt σ H Q ?_
  unfold cMutV at po
  split at po
  case h_2 => exact po.elim
  rename_i d0 e0
  split at po
  case isFalse => exact po.elim
  rename_i hkd
  obtain ⟨v, hv, r0⟩ := G.rep i d0 e0
  refine ⟨v, hv, mu.ty C H v d0 _ hC G.fr r0 hkd, q2 C fs env σ H tf _ hC G ?_⟩
  cases e2 : cs env with
  | err => rw [e2] at po; exact po
  | ex x env' => rw [e2] at po; exact fun cv dd fs' H' G' s => po cv dd fs' H' G' (s.weak (fun i hi => by simp [hi]) fun _ z => z)
  | ok ds env2 =>
    rw [e2] at po
    intro vs fs2 H2 fpa G2 s2 ra
    have po1 : PostO W C (M2 ++ [i]) tf fs env σ H Q (match env2[i]? with
      | some (some d) => (match mp d ds with
        | some dr => .ok dr.2 (env2.set i (some dr.1))
        | none => .err)
      | _ => .err) := po
    split at po1
    case h_2 => exact po1.elim
    rename_i d hd2
    obtain ⟨v2, hv2, r2⟩ := G2.rep i d hd2
    rw [hv] at hv2
    cases hv2
    cases e3 : mp d ds with
    | none => rw [e3] at po1; exact po1.elim
    | some dr =>
      rw [e3] at po1
      obtain ⟨d', res⟩ := dr
      have hf2 : fs2.getD i [] = [] ++ fs2.getD i [] ++ [] := by simp
      have Fo2 := foc_self r2
      have ndp : (fs2.getD i [] ++ fpa).Nodup := by
        have nd := G2.nd
        refine List.nodup_append.mpr ⟨?_, (List.nodup_append.mp (List.nodup_append.mp nd).2.1).1, fun a ha b hb eab => ?_⟩
        · have := (List.nodup_append.mp nd).1
          have := (flat_get fs2 (G2.lt hd2)).nodup_iff.mp this
          exact (List.nodup_append.mp this).1
        · subst eab; exact G2.apartT ha (by simp [hb])
      refine mu.run C H2 v d (fs2.getD i []) vs ds fpa Q d' res hC G2.fr r2 ra ndp e3 fun H3 w fp3 fpr m3 ch r3 rr nd3 sub3 => ?_
      have tfk : ∀ a ∈ tf, H3 a = H2 a := fun a ha => by
        obtain ⟨o, e, _⟩ := G2.trk a (by simp [ha])
        rw [e]; exact ch a o e fun hx => G2.apartT hx (by simp [ha])
      have Gn : Good C (fs2.set i ([] ++ fp3 ++ [])) (env2.set i (some d')) σ H3 (fpr ++ tf) := by
        refine G2.mut hd2 hv hf2 Fo2 m3 ch r3 ?_ ?_ ?_
        · rw [← List.append_assoc]
          refine List.nodup_append.mpr ⟨nd3, (List.nodup_append.mp (List.nodup_append.mp G2.nd).2.1).2.1, fun a ha b hb eab => ?_⟩
          subst eab
          rcases sub3 a ha with z | z | z
          · exact G2.apartT z (by simp [hb])
          · exact (List.nodup_append.mp (List.nodup_append.mp G2.nd).2.1).2.2 a z a hb rfl
          · obtain ⟨o, e, _⟩ := G2.trk a (by simp [hb])
            rw [z] at e; cases e
        · intro a ha
          rw [← List.append_assoc] at ha
          rcases List.mem_append.mp ha with z | z
          · rcases sub3 a z with w | w | w
            · exact .inl w
            · exact .inr (.inl (by simp [w]))
            · exact .inr (.inr w)
          · exact .inr (.inl (by simp [z]))
        · intro a ha
          rcases List.mem_append.mp ha with z | z
          · exact rr.trk a z
          · rw [tfk a z]; exact G2.trk a (by simp [z])
      have sn : Step [i] tf fs2 env2 H2 (fs2.set i ([] ++ fp3 ++ [])) (env2.set i (some d')) H3 := Step.mut (d := d) G2 hd2 hf2 m3 ch
      exact po1 w _ H3 fpr Gn (s2.trans sn) rr
theorem so_updLV {x : Str} {npos : Pos} (hcalm : X.calm = true) (i : Nat) (ha : SAO X W Mb (e :: es) cs) (hN : X.N[i]? = some x) (hv : Vis X.env.scope x) (hd : (x == ("__debug__" : Str)) = false) (hcd : (x == ("__classdict__" : Str)) = false)
    (hbase : attributeBase (.Name x npos) "update" X.env (eval (.Name x npos) X.env) = eval (.Name x npos) X.env)
    (hfew : ((backTo cpos (starEach (e :: es) X.env)).all (fun x => !x.1) && (backToKw cpos (keywordEach [] X.env)).all (fun x => x.1.isSome)
      && decide ((e :: es).length + ([] : List Keyword).length + (if ([] : List Keyword).isEmpty then 0 else 1) < 30)) = true)
    (hline : (apos.endLine == cpos.line) = true) (hs : starEach (e :: es) X.env = (false, eval e X.env) :: starEach es X.env) (hplain : (backTo cpos (starEach es X.env)).any (·.1) = false) :
    SO X W (Mb ++ [i]) (.Call (.Attribute (.Name x npos) "update" apos) (e :: es) [] cpos) (cMutV i kdM mUpdL cs) := by
  obtain ⟨t2, p2, q2⟩ := ha.go
  exact ⟨tBM X.K "dict" (rUpdL X.K) (tVar i) t2, pe_bm PySem.F.plainAttrs_dict PySem.F.slot_dict_update PySem.F.type_dict_update (mt_updL hcalm) (pe_var hN hv hd hcd) p2 hbase hfew hline hs hplain, mutv_go mu_updL q2 fun σ H Q h => h⟩
@[simp] theorem e_mutv {env : Env} {kd : D → Bool} {mp : D → List D → Option (D × D)} : cMutV i kd mp cs env = match env[i]? with
  | some (some d0) => if kd d0 then (cs env).bind fun ds env1 => (match env1[i]? with
    | some (some d) => (match mp d ds with
      | some dr => .ok dr.2 (env1.set i (some dr.1))
      | none => .err)
    | _ => .err) else .err
  | _ => .err := (rfl)
end
end VS

set_option maxRecDepth 100000
namespace VS
open PySem L2 SeqAt
/-! ### a list of one's own times a number -/
section
variable {X : Cx} {C : Ctx} {H : Hp}
def rptD {α : Type} (k : Nat) (xs : List α) : List α := (List.replicate k xs).flatten
theorem rptD_s {α : Type} (k : Nat) (xs : List α) : rptD (k + 1) xs = xs ++ rptD k xs := by unfold rptD; rw [List.replicate_succ, List.flatten_cons]
theorem reps_rpt {ds : List D} {vs : List V} {f : List Addr} (r : Reps C H ds vs f) : ∀ k : Nat, ∃ g, Reps C H (rptD k ds) (rptD k vs) g
  | 0 => ⟨[], rfl, rfl⟩
  | k + 1 => by
    obtain ⟨g, h⟩ := reps_rpt r k
    rw [rptD_s, rptD_s]
    exact ⟨f ++ g, reps_append r h⟩
theorem imms_rpt {ds : List D} (h : imms ds = true) : ∀ k : Nat, imms (rptD k ds) = true
  | 0 => rfl
  | k + 1 => by rw [rptD_s, imms_append, h, imms_rpt h k]; rfl
def pRepM : D → D → Option D
  | .lst .m ds, .int k => if imms ds && decide (-(2 ^ 63) ≤ k) && decide (k < 2 ^ 63) && decide (ds.length * k.toNat ≤ sizeLine) then some (.lst .m (rptD k.toNat ds)) else none
  | _, _ => none
theorem od_repM : OD2 X (binaryOp .Mult) pRepM := by
  refine OD2.of op_rep fun x y H Q ⟨C, dx, dy, fx, fy, d, hC, hF, r1, r2, e, k⟩ => ?_
  unfold pRepM at e
  split at e
  · rename_i ds i
    split at e <;> cases e
    rename_i hi
    simp only [Bool.and_eq_true, decide_eq_true_eq] at hi
    obtain ⟨⟨⟨h1, h2⟩, h3⟩, h4⟩ := hi
    obtain ⟨a, vs, f, rfl, hH, rz, rfl⟩ := rep_m r1
    obtain ⟨rfl, _⟩ := r2
    have l1 := reps_length rz
    obtain ⟨g, rg⟩ := reps_rpt rz i.toNat
    exact ⟨a, i, vs, rfl, rfl, hH, h2, h3, by first | (rw [← l1]; exact h4) | (rw [l1]; exact h4), fun p hp => k.lst rg (imms_rpt h1 _) hp⟩
  · cases e
def pMulG : D → D → Option D := orP2 pMulI pRepM
theorem od_mulG : OD2 X (binaryOp .Mult) pMulG := od_mulI.or od_repM
end
@[simp] theorem e_mulG1 (i j : Int) : pMulG (.int i) (.int j) = pMulI (.int i) (.int j) := by
  show (pMulI (.int i) (.int j)).or none = _
  cases pMulI (.int i) (.int j) <;> rfl
@[simp] theorem e_mulG2 (ds : List D) (k : Int) : pMulG (.lst .m ds) (.int k) = if imms ds && decide (-(2 ^ 63) ≤ k) && decide (k < 2 ^ 63) && decide (ds.length * k.toNat ≤ sizeLine) then some (.lst .m (rptD k.toNat ds)) else none := (rfl)
end VS

set_option maxRecDepth 100000
namespace VS
open PySem PySem.W PySem.Calls PyProof.Rows PyProof.V PySem.Spec
/-! ### list(reversed(xs)) of a list -/
theorem rvl_no_len : typeLookup (.type "list_reverseiterator") "__len__" = pure none := by rw [typeLookup_type, builtinLookup_eq_fast]; kernel_rfl
theorem rvl_hint : typeLookup (.type "list_reverseiterator") "__length_hint__" = pure (some (.builtin "list_reverseiterator.__length_hint__")) := by rw [typeLookup_type, builtinLookup_eq_fast]; kernel_rfl
section
variable {prog : Program} {w : World} {A : Around} {E : Value → Shared → Prop} {s : Shared} {I : Addr} {fp wr : List Addr} {G : Array GenState → Array GenState → Prop} {n : Nat} {P : Nat → Value → Prop} {St : Nat → Shared → Prop}
theorem rv_extend {R : Result → Shared → Prop} (W : WalksS prog w A.in1 I fp wr G n P St) (hT : ∀ i s, St i s → s.TypeIs (.ref I) "list_reverseiterator") (hn : n ≤ sizeLine) (S : Addr) (hSf : S ∉ fp) (hI : I ∈ fp) (res : Value) (c₀ : Nat) (hst : St 0 s)
    (hS : s.heap.get? S = some { cls := .type "list", data := .seq #[] c₀ })
    (hR : ∀ s' acc' c', Moved (S :: wr) G s s' → s'.heap.get? S = some { cls := .type "list", dict := none, data := .seq acc' c', slots := #[] } → ItemsOf P acc' n → R (.ok (.ret res)) s') :
    wpAny (model prog w) A.in1 (Builtin.List.listExtendWith (.ref S) (.ref I) res)
      (fun fin s' => match fin with | .done f => R (.ok f) s' | .again c' => c'.quiet = true ∧ codeAny (model prog w) A c' R s') (fun e s' => R (.error e) s') s := by
  have hSI : S ≠ I := fun e => hSf (e ▸ hI)
  have h1 : Builtin.List.listSameRef (.ref S) (.ref I) = false := by simp [Builtin.List.listSameRef, hSI]
  unfold Builtin.List.listExtendWith
  refine wpAny_bind (wpAny_typeOf (hT 0 _ hst) ?_)
  rw [if_neg (by rw [h1]; decide)]
  refine wpAny_bind (W.self 0 _ _ _ hst ?_)
  refine wpAny_bind (wpAny_holding ?_)
  unfold Builtin.List.listLengthHint
  refine wpAny_bind (wpAny_specialOf (hT 0 _ hst) rvl_no_len ?_)
  show wpAny _ A.in1 (specialOf (Value.ref I) (Str.ofString "__length_hint__") >>= _) _ _ _
  refine wpAny_bind (wpAny_specialOf (hT 0 _ hst) rvl_hint ?_)
  generalize hid : ("list_reverseiterator.__length_hint__" : String) = id0
  wp_delta
  rw [show splitId id0 = some ("list_reverseiterator", "__length_hint__") from by subst hid; decide +kernel]
  subst hid
  refine wpAny_bind (wpAny_isInstance (b := true) (hT 0 _ hst) (by rw [isSubtype_type]; kernel_rfl) ?_)
  refine wpAny_pure ?_
  rw [if_neg (by decide)]
  exact wpAny_pure ⟨plainId_quiet PySem.F.plain_extend_loop _, codeAny_extend_loopS W hn S hSf res n 0 _ _ c₀ rfl (Nat.zero_le _) hst hS (ItemsOf.nil P) fun s' acc' c' hm hS' hacc => hR s' acc' c' hm hS' hacc⟩
theorem rv_call {Q : Value → Shared → Prop} (hh : A.handled = none) {l : Addr} {items : Array Value} (hit : s.heap.IsRevIter I l ((items.size : Int) - 1)) (hl : s.heap.IsList l items) (hne : l ≠ I) (hn : items.size ≤ sizeLine)
    (hQ : ∀ h' tk acc c, (∀ b o, b ≠ I → s.heap.get? b = some o → h'.get? b = some o) → h'.get? s.heap.objs.size = some { cls := .type "list", dict := none, data := .seq acc c, slots := #[] } → ItemsOf (fun i v => items[items.size - 1 - i]? = some v) acc items.size → Q (.ref s.heap.objs.size) { s with heap := h', toks := tk }) :
    wpAny (model prog w) A (call (.type "list") [.ref I]) Q E s := by
  refine callType_codes (Q₁ := fun obj s₁ => obj = .ref s.heap.objs.size ∧ s₁ = { s with heap := s.heap.push { cls := .type "list", data := .seq #[] } }) PySem.F.called_list (PySem.F.typeCall_list_1 _) PySem.F.entry_list_init
    (code_list_new _ ⟨rfl, rfl⟩) fun obj s₁ hob => ?_
  obtain ⟨rfl, rfl⟩ := hob
  have hS : (s.heap.push { cls := .type "list", data := .seq #[] }).get? s.heap.objs.size = some { cls := .type "list", data := .seq #[] } := Heap.get?_push_size _ rfl
  refine ⟨⟨_, hS, rfl⟩, PySem.F.args_list_init_2 _ _, ?_⟩
  show wpAny _ _ (do let old ← Builtin.List.listItems (.ref s.heap.objs.size); Builtin.List.listUpdate (.ref s.heap.objs.size) (fun _ => #[]); letGo old.toList.reverse; Builtin.List.listExtendWith (.ref s.heap.objs.size) (.ref I) .none) _ _ _
  refine wpAny_bind ?_
  unfold Builtin.List.listItems
  refine wpAny_bind (wpAny_seqItems hS rfl (wpAny_pure ?_))
  show wpAny _ _ (updateSeq s.heap.objs.size (fun _ => #[]) >>= fun _ => letGo (#[] : Array Value).toList.reverse >>= fun _ => Builtin.List.listExtendWith (.ref s.heap.objs.size) (.ref I) .none) _ _ _
  refine wpAny_bind (wpAny_updateSeq hS rfl ?_)
  have hS₂ := Heap.get?_update_self (Obj.mapSeq (fun _ => (#[] : Array Value))) hS rfl
  have oth : ∀ b o, b ≠ s.heap.objs.size → s.heap.get? b = some o → ((s.heap.push { cls := .type "list", data := .seq #[] }).update s.heap.objs.size (Obj.mapSeq (fun _ => (#[] : Array Value)))).get? b = some o :=
    fun b o hb e => (Heap.get?_update_other _ _ (Ne.symm hb)).trans (Heap.get?_push_of_some _ e)
  have lt : ∀ {b o}, s.heap.get? b = some o → b ≠ s.heap.objs.size := fun e => Nat.ne_of_lt (Heap.lt_size e)
  refine wpAny_bind (wpAny_letGo ?_)
  have W := (Walks.listRev (prog := prog) (w := w) (A := A.in1.in1) hh I l hne items).toS
  obtain ⟨oi, hoi, ci, di⟩ := id hit
  obtain ⟨ol, hol, cl, nl, dl⟩ := id hl
  have hSf : s.heap.objs.size ∉ [I, l] := fun hm => by
    rcases List.mem_cons.mp hm with e | hm
    · exact lt hoi e.symm
    · exact lt hol (List.mem_singleton.mp hm).symm
  refine rv_extend (A := A.in1) (c₀ := 0) W (fun i s h => h.2.1.typeIs) hn s.heap.objs.size hSf (by simp) .none ⟨Nat.zero_le _, ?_, ?_⟩ hS₂ fun s' acc' c' hm hS' hacc => ?_
  · have := hit.at (h' := ((s.heap.push { cls := .type "list", data := .seq #[] }).update s.heap.objs.size (Obj.mapSeq (fun _ => (#[] : Array Value))))) fun o e => oth _ o (lt hoi) e
    simpa using this
  · exact hl.at fun o e => oth _ o (lt hol) e
  · rw [Moved.eq_with hm]
    exact ⟨rfl, hQ s'.heap s'.toks acc' c' (fun b o hb e => hm.heap b o (fun hmem => by
      rcases List.mem_cons.mp hmem with e' | hmem
      · exact lt e e'
      · exact hb (List.mem_singleton.mp hmem)) (oth b o (lt e) e)) hS' hacc⟩
end
end VS
namespace VS
open PySem L2 SeqAt PySem.Spec PyProof.Rows
section
variable {X : Cx} {W : WX} {M Rs : List Nat} {e : Expr} {ca : CE} {p pos p2 pos2 : Pos}
def tRevL (K : PySem.W.Frag) (te : TE) : TE := fun σ H Q => te σ H fun v H1 => ∃ (a : Addr) (xs : List V), v = .ref a ∧ SqL K H1 a xs ∧ ∀ q, H1 q = none → Q (.ref q) (upd H1 q (.lst xs.reverse))
theorem pe_revL {te : TE} (hc : X.calm = true) (hg : Gl X "list") (hm : X.mg "list" = none) (hg2 : Gl X "reversed") (hm2 : X.mg "reversed" = none) (he : PE X e te)
    (hs : starEach [e] X.env = (false, eval e X.env) :: starEach [] X.env := by rfl)
    (hs2 : starEach [.Call (.Name "reversed" p2) [e] [] pos2] X.env = (false, eval (.Call (.Name "reversed" p2) [e] [] pos2) X.env) :: starEach [] X.env := by rfl) :
    PE X (.Call (.Name "list" p) [.Call (.Name "reversed" p2) [e] [] pos2] [] pos) (tRevL X.K te) := by
  refine ⟨fun pins s σ H Q I h => ?_⟩
  refine Call_ (ld_blt I hg hm PyProof.Rows.boot_list (PyProof.Rows.callWith_type1 (args_cons (Call_ (ld_blt I hg2 hm2 PyProof.Rows.boot_reversed (PyProof.Rows.callWith_type1 (args_cons (thn (he.run pins s σ H _ I h) fun u s1 ⟨v, H1, I1, r1, q1⟩ => args_nil ?_) hs) hs rfl))) hs2) hs2 rfl))
  obtain ⟨a, xs, ev, hq, q⟩ := q1
  subst ev
  obtain rfl : u = Value.ref a := r1
  obtain ⟨its, rv, p', hz⟩ := I1.list hq
  refine call_reversed_list p'.isList (args_nil ?_)
  have k0 : ∀ b o, s1.heap.get? b = some o → (s1.heap.push (revObj a ((its.toArray.size : Int) - 1))).get? b = some o := fun b o e => Heap.get?_push_of_some _ e
  have hl := p'.isList
  obtain ⟨ol, hol, _⟩ := id hl
  have hne : a ≠ s1.heap.objs.size := Nat.ne_of_lt (Heap.lt_size hol)
  have hn : its.toArray.size ≤ sizeLine := by rw [List.size_toArray, ← rv.length]; exact hz
  refine rv_call (s := { s1 with heap := s1.heap.push (revObj a ((its.toArray.size : Int) - 1)) }) (I1.ok.hd hc) ⟨_, Heap.get?_push_size _ rfl, rfl, rfl⟩ (hl.push _) hne hn fun h' tk acc c hk hS hi => ?_
  have k1 : ∀ b o, s1.heap.get? b = some o → h'.get? b = some o := fun b o e => hk b o (Nat.ne_of_lt (Heap.lt_size e)) (k0 b o e)
  have hle : s1.heap.objs.size ≤ (s1.heap.push (revObj a ((its.toArray.size : Int) - 1))).objs.size := by
    have : (s1.heap.push (revObj a ((its.toArray.size : Int) - 1))).objs.size = s1.heap.objs.size + 1 := by simp [Heap.push]
    rw [this]; exact Nat.le_succ _
  refine ⟨.ref _, upd H1 _ (.lst xs.reverse), I1.laid (t' := tk) k1 hle (show ObjOk X.prog X.w _ _ _ (.lst xs.reverse) from ⟨by rw [List.length_reverse]; exact hz, acc.toList, c, RT.vals_rev rv hi, ?_⟩), rfl, q _ (I1.hok.fresh hle)⟩
  rw [Array.toArray_toList]
  exact hS
def revL : D → Option D
  | .lst _ ds => if imms ds then some (.lst .m ds.reverse) else none
  | _ => none
def cRevL (ca : CE) : CE := fun env => (ca env).bind fun d env => R.of (revL d) env
theorem so_revL (hc : X.calm = true) (hg : Gl X "list") (hm : X.mg "list" = none) (hg2 : Gl X "reversed") (hm2 : X.mg "reversed" = none) (h : SB X W M Rs e ca)
    (hs : starEach [e] X.env = (false, eval e X.env) :: starEach [] X.env := by rfl)
    (hs2 : starEach [.Call (.Name "reversed" p2) [e] [] pos2] X.env = (false, eval (.Call (.Name "reversed" p2) [e] [] pos2) X.env) :: starEach [] X.env := by rfl) :
    SO X W M (.Call (.Name "list" p) [.Call (.Name "reversed" p2) [e] [] pos2] [] pos) (cRevL ca) := by
  obtain ⟨t, pe, q⟩ := h.go
  refine ⟨tRevL X.K t, pe_revL hc hg hm hg2 hm2 pe hs hs2, fun C fs env σ H tf Q hC G po => ?_⟩
  refine q C fs env σ H tf _ hC G ?_
  unfold cRevL at po
  cases e1 : ca env with
  | err => rw [e1] at po; exact po
  | ex x env' => rw [e1] at po; exact po
  | ok d env1 =>
    rw [e1] at po
    intro v fs1 H1 fp own G1 s1 r1 i1
    have po' : PostO W C M tf fs env σ H Q (R.of (revL d) env1) := po
    cases ez : revL d with
    | none => rw [ez] at po'; exact po'.elim
    | some z =>
    rw [ez] at po'
    unfold revL at ez
    split at ez
    · rename_i g xs
      split at ez <;> cases ez
      rename_i hi
      obtain ⟨a, vs, f3, rfl, sq, rs⟩ := rep_list hC G1.fr r1
      have z1 := rs.imm hi
      subst z1
      refine ⟨a, vs, rfl, sq, fun S hS => ?_⟩
      have le : Le H1 (L2.upd H1 S (.lst vs.reverse)) := fun b u e => by
        have hb : b ≠ S := fun z => by rw [z, hS] at e; cases e
        show (if b = S then _ else H1 b) = _
        rw [if_neg hb]; exact e
      have hself : (L2.upd H1 S (.lst vs.reverse)) S = some (.lst vs.reverse) := if_pos rfl
      exact comes_post (own := own) G1 s1 po' (.ref S) (L2.upd H1 S (.lst vs.reverse)) [S] le ⟨S, vs.reverse, [S], [], rfl, ⟨hself, rfl⟩, reps_rev (rs.le le), .inl rfl, rfl⟩ (by simp) (by simpa using hS)
    · cases ez
@[simp] theorem e_revL {env : Env} : cRevL ca env = (ca env).bind fun d env => R.of (revL d) env := (rfl)
@[simp] theorem revL_l (g : Fl) (xs : List D) : revL (.lst g xs) = if imms xs then some (.lst .m xs.reverse) else none := (rfl)
end
end VS

set_option maxRecDepth 100000
set_option maxHeartbeats 0
namespace VS
open PySem L2 SeqAt PySem.Spec PyProof.Rows
def top (i : Nat) : Stmt := PySem.Challenge.pw_joinback_k16_needed.main.body.getD i (.Pass ⟨0, 0, 0, 0⟩)
section
variable {P : Program} {w : World} {K : PySem.W.Frag} {mg : Str → Option Value} {base : Heap}
/-! #### _law_begin -/
abbrev s__law_begin : Stmt := top 10
theorem sc__law_begin : FnScope ["_law_script", "_law_cells"] ["_law_script"] (defScope s__law_begin) := ⟨rfl, rfl, rfl, by decide +kernel, rfl, by decide +kernel, by decide +kernel⟩
def b__law_begin : CS := (sSeq (sAsg (cL pListG (cCons (cSl (cVar 0) pNo (pAt (cK (.int 63)))) cNil)) (gSet 1)) (sSeq (sIf (cTt (c2 pEq (cVar 1) (cLst cNil))) (sAsg (cLst (cCons (cK (.int 7)) cNil)) (gSet 1)) sNil) (sRet (cDisp (((cK (.str "cells")), (cGet 1)) :: (((cK (.str "turn")), (cK (.int 0))) :: []))))))
def φ__law_begin : List D → FR := fnRun 2 [false] b__law_begin
theorem ok__law_begin {f : Addr} {fd : FuncData} (F : Fun K "_law_begin" "_law_begin" s__law_begin f fd) (z_list : mg "list" = none) : FnOk P w K mg base (L2.CX P w) 1 f fd ["_law_script"] (spF K mg [false] φ__law_begin) := by
  refine' fn_ok (M := _) (Vs := _) F sc__law_begin rfl ?hv fun cdv A outer s H E hr => ?hb
  case hb =>
    have hr : Room 0 (cxOf (L2.CX P w) P w K mg base ["_law_script", "_law_cells"] "_law_begin" (defScope s__law_begin) f cdv A outer s H E).A := hr
    have hN : (cxOf (L2.CX P w) P w K mg base ["_law_script", "_law_cells"] "_law_begin" (defScope s__law_begin) f cdv A outer s H E).N.Nodup := sc__law_begin.nd
    have tk : Takes (cxOf (L2.CX P w) P w K mg base ["_law_script", "_law_cells"] "_law_begin" (defScope s__law_begin) f cdv A outer s H E) (fun cls d _ H => E cls d H) := takes_of rfl rfl rfl rfl
    have hp : PassesOwn (model (cxOf (L2.CX P w) P w K mg base ["_law_script", "_law_cells"] "_law_begin" (defScope s__law_begin) f cdv A outer s H E).prog (cxOf (L2.CX P w) P w K mg base ["_law_script", "_law_cells"] "_law_begin" (defScope s__law_begin) f cdv A outer s H E).w) (cxOf (L2.CX P w) P w K mg base ["_law_script", "_law_cells"] "_law_begin" (defScope s__law_begin) f cdv A outer s H E).A (cxOf (L2.CX P w) P w K mg base ["_law_script", "_law_cells"] "_law_begin" (defScope s__law_begin) f cdv A outer s H E).env (cxOf (L2.CX P w) P w K mg base ["_law_script", "_law_cells"] "_law_begin" (defScope s__law_begin) f cdv A outer s H E).xe := passes_of rfl
    refine' (ss_cons (ss_setI hN (so_callTy (od_listG rfl) (by rfl) z_list (by rfl) (sa_cons (SO.sb (so_slice (sb_var 0) sp_no (sp_at (SO.sb so_int)) (by decide))) sa_nil (by decide) (by rfl)) (by decide) (by decide) (by rfl) (by rfl)) (by rfl) (by first | exact .inl rfl | exact .inr rfl) (by rfl) (by first | exact .inl rfl | exact .inr rfl | assumption)) (ss_cons (ss_if (st_cmpD (od_eq hr) (sb_var 1) (SO.sb (so_lst sao_nil)) (by first | exact nomark _ | rfl) (by decide)) (ss_one (ss_setI hN (so_lst (sao_cons so_int sao_nil (by rfl))) (by rfl) (by first | exact .inl rfl | exact .inr rfl) (by rfl) (by first | exact .inl rfl | exact .inr rfl | assumption))) ss_nil) (ss_one (ss_ret (so_disp (spp_cons (SO.sb so_str) (so_get 1) (spp_cons (SO.sb so_str) so_int spp_nil)) (by rfl) (by rfl) (by intro h; cases h) (by decide))))))
  case hv => decide
/-! #### _law_take -/
abbrev s__law_take : Stmt := top 11
theorem sc__law_take : FnScope ["_law_state", "_law_many", "_law_turn", "_law_spot", "_law_cell", "_law_digit", "_law_mixed"] ["_law_state", "_law_many"] (defScope s__law_take) := ⟨rfl, rfl, rfl, by decide +kernel, rfl, by decide +kernel, by decide +kernel⟩
def b__law_take : CS := (sSeq (sAsg (c2 pAdd (cIdx (cVar 0) (cK (.str "turn"))) (cK (.int 1))) (gSet 2)) (sSeq (sAsg (cGet 2) (gSubD 0 (lVar 0) (cK (.str "turn")))) (sSeq (sAsg (c2 pMod (cVar 2) (cL pLen (cCons (cIdx (cVar 0) (cK (.str "cells"))) cNil))) (gSet 3)) (sSeq (sAsg (cImm (cIdx (cIdx (cVar 0) (cK (.str "cells"))) (cVar 3))) (gSet 4)) (sSeq (sIf (cTt (c2 pGeG (cVar 4) (c2 pPow (cK (.int 10)) (cK (.int 18))))) (sSeq (sAsg (cL pDivmod (cCons (cVar 4) (cCons (cVar 1) cNil))) (gTupD 2 (gConsD (gSubD 0 (lIdx (lVar 0) (cK (.str "cells"))) (cVar 3)) (gConsD (gSet 5) gNilD)))) (sRet (cGet 5))) sNil) (sSeq (sAsg (c2 pMod (c2 pMulI (c2 pAdd (c2 pAdd (c2 pMod (cVar 4) (cK (.int 2147483629))) (c2 pMulI (c2 pMulI (cVar 2) (cVar 2)) (cK (.int 7919)))) (cK (.int 11))) (cK (.int 48271))) (cK (.int 2147483647))) (gSet 6)) (sSeq (sAsg (c2 pMod (c2 pMulI (cVar 6) (cVar 6)) (cK (.int 2147483587))) (gSet 6)) (sRet (c2 pMod (c2 pDiv (c2 pMod (c2 pMulI (c2 pAdd (cVar 6) (c2 pMulI (cVar 2) (cK (.int 104729)))) (cK (.int 39373))) (cK (.int 2147483629))) (cK (.int 64))) (cVar 1))))))))))
def φ__law_take : List D → FR := fnRun 7 [true, false] b__law_take
theorem ok__law_take {f : Addr} {fd : FuncData} (F : Fun K "_law_take" "_law_take" s__law_take f fd) (z_len : mg "len" = none) (z_divmod : mg "divmod" = none) : FnOk P w K mg base (L2.CX P w) 1 f fd ["_law_state", "_law_many"] (spF K mg [true, false] φ__law_take) := by
  refine' fn_ok (M := _) (Vs := _) F sc__law_take rfl ?hv fun cdv A outer s H E hr => ?hb
  case hb =>
    have hr : Room 0 (cxOf (L2.CX P w) P w K mg base ["_law_state", "_law_many", "_law_turn", "_law_spot", "_law_cell", "_law_digit", "_law_mixed"] "_law_take" (defScope s__law_take) f cdv A outer s H E).A := hr
    have hN : (cxOf (L2.CX P w) P w K mg base ["_law_state", "_law_many", "_law_turn", "_law_spot", "_law_cell", "_law_digit", "_law_mixed"] "_law_take" (defScope s__law_take) f cdv A outer s H E).N.Nodup := sc__law_take.nd
    have tk : Takes (cxOf (L2.CX P w) P w K mg base ["_law_state", "_law_many", "_law_turn", "_law_spot", "_law_cell", "_law_digit", "_law_mixed"] "_law_take" (defScope s__law_take) f cdv A outer s H E) (fun cls d _ H => E cls d H) := takes_of rfl rfl rfl rfl
    have hp : PassesOwn (model (cxOf (L2.CX P w) P w K mg base ["_law_state", "_law_many", "_law_turn", "_law_spot", "_law_cell", "_law_digit", "_law_mixed"] "_law_take" (defScope s__law_take) f cdv A outer s H E).prog (cxOf (L2.CX P w) P w K mg base ["_law_state", "_law_many", "_law_turn", "_law_spot", "_law_cell", "_law_digit", "_law_mixed"] "_law_take" (defScope s__law_take) f cdv A outer s H E).w) (cxOf (L2.CX P w) P w K mg base ["_law_state", "_law_many", "_law_turn", "_law_spot", "_law_cell", "_law_digit", "_law_mixed"] "_law_take" (defScope s__law_take) f cdv A outer s H E).A (cxOf (L2.CX P w) P w K mg base ["_law_state", "_law_many", "_law_turn", "_law_spot", "_law_cell", "_law_digit", "_law_mixed"] "_law_take" (defScope s__law_take) f cdv A outer s H E).env (cxOf (L2.CX P w) P w K mg base ["_law_state", "_law_many", "_law_turn", "_law_spot", "_law_cell", "_law_digit", "_law_mixed"] "_law_take" (defScope s__law_take) f cdv A outer s H E).xe := passes_of rfl
    refine' (ss_cons (ss_setI hN (so_bin od_add (sb_idx hr (sb_var 0) (SO.sb so_str) (by exact fun _ _ => rfl) (by decide)) (SO.sb so_int) (by decide)) (by rfl) (by first | exact .inl rfl | exact .inr rfl) (by rfl) (by first | exact .inl rfl | exact .inr rfl | assumption)) (ss_cons (ss_asg (so_get 2) (sg_sub hr (W1 := fun cls d _ H => E cls d H) (W2 := fun cls d _ H => E cls d H) (sl_var 0) (SO.sb so_str) (by decide) (by intro _; rfl)) (by rfl) (by rfl) (by rfl)) (ss_cons (ss_setI hN (so_bin od_mod (sb_var 2) (SO.sb (so_callB od_len (by rfl) z_len (by rfl) (sa_cons (sb_idx hr (sb_var 0) (SO.sb so_str) (by exact fun _ _ => rfl) (by decide)) sa_nil (by decide) (by rfl)) (by decide) (by decide) (by rfl) (by rfl))) (by decide)) (by rfl) (by first | exact .inl rfl | exact .inr rfl) (by rfl) (by first | exact .inl rfl | exact .inr rfl | assumption)) (ss_cons (ss_setI hN (SB.imm (sb_idx hr (sb_idx hr (sb_var 0) (SO.sb so_str) (by exact fun _ _ => rfl) (by decide)) (sb_var 3) (by exact fun _ _ => rfl) (by decide))) (by rfl) (by first | exact .inl rfl | exact .inr rfl) (by rfl) (by first | exact .inl rfl | exact .inr rfl | assumption)) (ss_cons (ss_if (st_cmpD (od_geG hr) (sb_var 4) (SO.sb (so_bin od_pow (SO.sb so_int) (SO.sb so_int) (by decide))) (by first | exact nomark _ | rfl) (by decide)) (ss_cons (ss_asg (so_callB od_divmod (by rfl) z_divmod (by rfl) (sa_cons (sb_var 4) (sa_cons (sb_var 1) sa_nil (by decide) (by rfl)) (by decide) (by rfl)) (by decide) (by decide) (by rfl) (by rfl)) (sg_tup rfl (sgs_cons (sg_sub hr (W1 := fun cls d _ H => E cls d H) (W2 := fun cls d _ H => E cls d H) (sl_idx hr (sl_var 0) (SO.sb so_str) (by exact fun _ _ => rfl) (by decide)) (sb_var 3) (by decide) (by intro _; rfl)) (sgs_cons (sg_name 5 hN) sgs_nil (by rfl)) (by rfl)) (by rfl)) (by rfl) (by rfl) (by rfl)) (ss_one (ss_ret (so_get 5)))) ss_nil) (ss_cons (ss_setI hN (so_bin od_mod (SO.sb (so_bin od_mulI (SO.sb (so_bin od_add (SO.sb (so_bin od_add (SO.sb (so_bin od_mod (sb_var 4) (SO.sb so_int) (by decide))) (SO.sb (so_bin od_mulI (SO.sb (so_bin od_mulI (sb_var 2) (sb_var 2) (by decide))) (SO.sb so_int) (by decide))) (by decide))) (SO.sb so_int) (by decide))) (SO.sb so_int) (by decide))) (SO.sb so_int) (by decide)) (by rfl) (by first | exact .inl rfl | exact .inr rfl) (by rfl) (by first | exact .inl rfl | exact .inr rfl | assumption)) (ss_cons (ss_setI hN (so_bin od_mod (SO.sb (so_bin od_mulI (sb_var 6) (sb_var 6) (by decide))) (SO.sb so_int) (by decide)) (by rfl) (by first | exact .inl rfl | exact .inr rfl) (by rfl) (by first | exact .inl rfl | exact .inr rfl | assumption)) (ss_one (ss_ret (so_bin od_mod (SO.sb (so_bin od_div (SO.sb (so_bin od_mod (SO.sb (so_bin od_mulI (SO.sb (so_bin od_add (sb_var 6) (SO.sb (so_bin od_mulI (sb_var 2) (SO.sb so_int) (by decide))) (by decide))) (SO.sb so_int) (by decide))) (SO.sb so_int) (by decide))) (SO.sb so_int) (by decide))) (sb_var 1) (by decide)))))))))))
  case hv => decide
/-! #### _law_names -/
abbrev s__law_names : Stmt := top 12
theorem sc__law_names : FnScope ["_law_state", "_law_many", "_law_some", "_law_first"] ["_law_state"] (defScope s__law_names) := ⟨rfl, rfl, rfl, by decide +kernel, rfl, by decide +kernel, by decide +kernel⟩
def b__law_names : CS := (sSeq (sAsg (cImm (cIdx (cLst (cCons (cK (.int 4)) (cCons (cK (.int 5)) (cCons (cK (.int 6)) (cCons (cK (.int 7)) (cCons (cK (.int 8)) (cCons (cK (.int 6)) (cCons (c2 pAdd (cK (.int 10)) (cCall φ__law_take (aOw (cMv 0) (some 0) (aRo (cK (.int 5)) aNil)))) (cCons (cCall φ__law_take (aOw (cMv 0) (some 0) (aRo (cK (.int 3)) aNil))) cNil))))))))) (cCall φ__law_take (aOw (cMv 0) (some 0) (aRo (cK (.int 8)) aNil))))) (gSet 1)) (sSeq (sAsg (cSplit (cK (.str "b aa zebra c quartzes ab m knows d mm likes z a ba abcdefgh y")) (cK (.str " "))) (gSet 2)) (sSeq (sAsg (cCall φ__law_take (aOw (cMv 0) (some 0) (aRo (cL pLen (cCons (cVar 2) cNil)) aNil))) (gSet 3)) (sRet (cSl (c2 pAdd (cSl (cVar 2) (pAt (cVar 3)) pNo) (cSl (cVar 2) pNo (pAt (cVar 3)))) pNo (pAt (cVar 1)))))))
def φ__law_names : List D → FR := fnRun 4 [true] b__law_names
theorem ok__law_names {f : Addr} {fd : FuncData} (F : Fun K "_law_names" "_law_names" s__law_names f fd) (z_len : mg "len" = none) (d__law_take : Fd P w K mg base 1 "_law_take" ["_law_state", "_law_many"] [true, false] φ__law_take) : FnOk P w K mg base (L2.CX P w) 2 f fd ["_law_state"] (spF K mg [true] φ__law_names) := by
  refine' fn_ok (M := _) (Vs := _) F sc__law_names rfl ?hv fun cdv A outer s H E hr => ?hb
  case hb =>
    have hr : Room 1 (cxOf (L2.CX P w) P w K mg base ["_law_state", "_law_many", "_law_some", "_law_first"] "_law_names" (defScope s__law_names) f cdv A outer s H E).A := hr
    have hN : (cxOf (L2.CX P w) P w K mg base ["_law_state", "_law_many", "_law_some", "_law_first"] "_law_names" (defScope s__law_names) f cdv A outer s H E).N.Nodup := sc__law_names.nd
    have tk : Takes (cxOf (L2.CX P w) P w K mg base ["_law_state", "_law_many", "_law_some", "_law_first"] "_law_names" (defScope s__law_names) f cdv A outer s H E) (fun cls d _ H => E cls d H) := takes_of rfl rfl rfl rfl
    have hp : PassesOwn (model (cxOf (L2.CX P w) P w K mg base ["_law_state", "_law_many", "_law_some", "_law_first"] "_law_names" (defScope s__law_names) f cdv A outer s H E).prog (cxOf (L2.CX P w) P w K mg base ["_law_state", "_law_many", "_law_some", "_law_first"] "_law_names" (defScope s__law_names) f cdv A outer s H E).w) (cxOf (L2.CX P w) P w K mg base ["_law_state", "_law_many", "_law_some", "_law_first"] "_law_names" (defScope s__law_names) f cdv A outer s H E).A (cxOf (L2.CX P w) P w K mg base ["_law_state", "_law_many", "_law_some", "_law_first"] "_law_names" (defScope s__law_names) f cdv A outer s H E).env (cxOf (L2.CX P w) P w K mg base ["_law_state", "_law_many", "_law_some", "_law_first"] "_law_names" (defScope s__law_names) f cdv A outer s H E).xe := passes_of rfl
    have D__law_take := (d__law_take).mono (k := 1) (by omega)
    refine' (ss_cons (ss_setI hN (SB.imm (sb_idx hr (SO.sb (so_lst (sao_cons so_int (sao_cons so_int (sao_cons so_int (sao_cons so_int (sao_cons so_int (sao_cons so_int (sao_cons (so_bin od_add (SO.sb so_int) (SO.sb (so_call D__law_take hr tk (sri_ioI (sri_ro (SO.sb so_int) sri_nil (by decide) (by rfl)) (by rfl) (by first | exact Or.inl rfl | exact Or.inr (Or.inl rfl) | exact Or.inr (Or.inr rfl)) (by decide) (by decide) (by rfl)) (by rfl) (by decide) (by rfl) (by rfl))) (by decide)) (sao_cons (so_call D__law_take hr tk (sri_ioI (sri_ro (SO.sb so_int) sri_nil (by decide) (by rfl)) (by rfl) (by first | exact Or.inl rfl | exact Or.inr (Or.inl rfl) | exact Or.inr (Or.inr rfl)) (by decide) (by decide) (by rfl)) (by rfl) (by decide) (by rfl) (by rfl)) sao_nil (by rfl)) (by rfl)) (by rfl)) (by rfl)) (by rfl)) (by rfl)) (by rfl)) (by rfl)))) (SO.sb (so_call D__law_take hr tk (sri_ioI (sri_ro (SO.sb so_int) sri_nil (by decide) (by rfl)) (by rfl) (by first | exact Or.inl rfl | exact Or.inr (Or.inl rfl) | exact Or.inr (Or.inr rfl)) (by decide) (by decide) (by rfl)) (by rfl) (by decide) (by rfl) (by rfl))) (by exact fun _ _ => rfl) (by decide))) (by rfl) (by first | exact .inl rfl | exact .inr rfl) (by rfl) (by first | exact .inl rfl | exact .inr rfl | assumption)) (ss_cons (ss_setI hN (so_split (SO.sb so_str) (SO.sb so_str) (by rfl) (by rfl) (by rfl)) (by rfl) (by first | exact .inl rfl | exact .inr rfl) (by rfl) (by first | exact .inl rfl | exact .inr rfl | assumption)) (ss_cons (ss_setI hN (so_call D__law_take hr tk (sri_ioI (sri_ro (SO.sb (so_callB od_len (by rfl) z_len (by rfl) (sa_cons (sb_var 2) sa_nil (by decide) (by rfl)) (by decide) (by decide) (by rfl) (by rfl))) sri_nil (by decide) (by rfl)) (by rfl) (by first | exact Or.inl rfl | exact Or.inr (Or.inl rfl) | exact Or.inr (Or.inr rfl)) (by decide) (by decide) (by rfl)) (by rfl) (by decide) (by rfl) (by rfl)) (by rfl) (by first | exact .inl rfl | exact .inr rfl) (by rfl) (by first | exact .inl rfl | exact .inr rfl | assumption)) (ss_one (ss_ret (so_slice (SO.sb (so_bin od_add (SO.sb (so_slice (sb_var 2) (sp_at (sb_var 3)) sp_no (by decide))) (SO.sb (so_slice (sb_var 2) sp_no (sp_at (sb_var 3)) (by decide))) (by decide))) sp_no (sp_at (sb_var 1)) (by decide)))))))
  case hv => decide
/-! #### _law_joinings -/
abbrev s__law_joinings : Stmt := top 13
theorem sc__law_joinings : FnScope ["_law_state", "_law_names_here", "_law_spots", "_law_name", "_law_spot", "_law_found", "_law_turn", "_law_step", "_law_way", "_law_k", "_law_j", "_law_one", "_law_other"] ["_law_state", "_law_names_here"] (defScope s__law_joinings) := ⟨rfl, rfl, rfl, by decide +kernel, rfl, by decide +kernel, by decide +kernel⟩
def l__law_joinings_1 : CS := (sSeq (sPar 9 10 (cCons (cCall φ__law_take (aOw (cMv 0) (some 0) (aRo (cL pLen (cCons (cVar 1) cNil)) aNil))) (cCons (cCall φ__law_take (aOw (cMv 0) (some 0) (aRo (cL pLen (cCons (cVar 1) cNil)) aNil))) cNil))) (sSeq (sAsg (c2 pSub (cIdx (cVar 2) (cVar 10)) (cIdx (cVar 2) (cVar 9))) (gSet 7)) (sSeq (sIf (cTt (c2 pEq (cCall φ__law_take (aOw (cMv 0) (some 0) (aRo (cK (.int 3)) aNil))) (cK (.int 0)))) (sAsg (c2 pSub (cCall φ__law_take (aOw (cMv 0) (some 0) (aRo (cK (.int 9)) aNil))) (cK (.int 4))) (gSet 7)) sNil) (sSeq (sExpr (cMut 5 kdL mAppend (lVar 5) (cCons (cTup (cCons (cImm (cIdx (cVar 1) (cVar 9))) (cCons (cImm (cIdx (cVar 1) (cVar 10))) (cCons (cGet 7) cNil)))) cNil))) (sSeq (sAsg (cCall φ__law_take (aOw (cMv 0) (some 0) (aRo (cK (.int 12)) aNil))) (gSet 8)) (sSeq (sIf (cTt (c2 pEq (cVar 8) (cK (.int 0)))) (sAsg (cImm (cIdx (cVar 5) (cCall φ__law_take (aOw (cMv 0) (some 0) (aRo (cL pLen (cCons (cVar 5) cNil)) aNil))))) (gSubD 5 (lVar 5) (c1 pNeg (cK (.int 1))))) sNil) (sIf (cTt (c2 pEq (cVar 8) (cK (.int 1)))) (sSeq (sAsg (cImm (cIdx (cVar 5) (cCall φ__law_take (aOw (cMv 0) (some 0) (aRo (cL pLen (cCons (cVar 5) cNil)) aNil))))) (gTupD 3 (gConsD (gSet 11) (gConsD (gSet 12) (gConsD (gSet 7) gNilD))))) (sAsg (cTup (cCons (cGet 12) (cCons (cGet 11) (cCons (c1 pNeg (cVar 7)) cNil)))) (gSubD 5 (lVar 5) (c1 pNeg (cK (.int 1)))))) sNil)))))))
def b__law_joinings : CS := (sSeq (sAsg (cLc (iAnyD (cVar 1)) [3] (gSet 3) cYes (c2 pSub (cCall φ__law_take (aOw (cMv 0) (some 0) (aRo (cK (.int 19)) aNil))) (cK (.int 9)))) (gSet 2)) (sSeq (sIf (cTt (c2 pEq (cCall φ__law_take (aOw (cMv 0) (some 0) (aRo (cK (.int 6)) aNil))) (cK (.int 0)))) (sAsg (cLc (iAnyD (cVar 2)) [4] (gSet 4) cYes (c2 pMulI (cVar 4) (cK (.int 50000000021)))) (gSet 2)) sNil) (sSeq (sAsg (cLst cNil) (gSet 5)) (sSeq (sFor (iRange1 (cCons (cCall φ__law_take (aOw (cMv 0) (some 0) (aRo (c2 pAdd (c2 pMulI (cK (.int 2)) (cL pLen (cCons (cVar 1) cNil))) (cK (.int 1))) aNil))) cNil)) (gSet 6) l__law_joinings_1) (sRet (cGet 5))))))
def φ__law_joinings : List D → FR := fnRun 13 [true, false] b__law_joinings
theorem ok__law_joinings {f : Addr} {fd : FuncData} (F : Fun K "_law_joinings" "_law_joinings" s__law_joinings f fd) (z_len : mg "len" = none) (z_range : mg "range" = none) (d__law_take : Fd P w K mg base 1 "_law_take" ["_law_state", "_law_many"] [true, false] φ__law_take) : FnOk P w K mg base (L2.CX P w) 2 f fd ["_law_state", "_law_names_here"] (spF K mg [true, false] φ__law_joinings) := by
  refine' fn_ok (M := _) (Vs := _) F sc__law_joinings rfl ?hv fun cdv A outer s H E hr => ?hb
  case hb =>
    have hr : Room 1 (cxOf (L2.CX P w) P w K mg base ["_law_state", "_law_names_here", "_law_spots", "_law_name", "_law_spot", "_law_found", "_law_turn", "_law_step", "_law_way", "_law_k", "_law_j", "_law_one", "_law_other"] "_law_joinings" (defScope s__law_joinings) f cdv A outer s H E).A := hr
    have hN : (cxOf (L2.CX P w) P w K mg base ["_law_state", "_law_names_here", "_law_spots", "_law_name", "_law_spot", "_law_found", "_law_turn", "_law_step", "_law_way", "_law_k", "_law_j", "_law_one", "_law_other"] "_law_joinings" (defScope s__law_joinings) f cdv A outer s H E).N.Nodup := sc__law_joinings.nd
    have tk : Takes (cxOf (L2.CX P w) P w K mg base ["_law_state", "_law_names_here", "_law_spots", "_law_name", "_law_spot", "_law_found", "_law_turn", "_law_step", "_law_way", "_law_k", "_law_j", "_law_one", "_law_other"] "_law_joinings" (defScope s__law_joinings) f cdv A outer s H E) (fun cls d _ H => E cls d H) := takes_of rfl rfl rfl rfl
    have hp : PassesOwn (model (cxOf (L2.CX P w) P w K mg base ["_law_state", "_law_names_here", "_law_spots", "_law_name", "_law_spot", "_law_found", "_law_turn", "_law_step", "_law_way", "_law_k", "_law_j", "_law_one", "_law_other"] "_law_joinings" (defScope s__law_joinings) f cdv A outer s H E).prog (cxOf (L2.CX P w) P w K mg base ["_law_state", "_law_names_here", "_law_spots", "_law_name", "_law_spot", "_law_found", "_law_turn", "_law_step", "_law_way", "_law_k", "_law_j", "_law_one", "_law_other"] "_law_joinings" (defScope s__law_joinings) f cdv A outer s H E).w) (cxOf (L2.CX P w) P w K mg base ["_law_state", "_law_names_here", "_law_spots", "_law_name", "_law_spot", "_law_found", "_law_turn", "_law_step", "_law_way", "_law_k", "_law_j", "_law_one", "_law_other"] "_law_joinings" (defScope s__law_joinings) f cdv A outer s H E).A (cxOf (L2.CX P w) P w K mg base ["_law_state", "_law_names_here", "_law_spots", "_law_name", "_law_spot", "_law_found", "_law_turn", "_law_step", "_law_way", "_law_k", "_law_j", "_law_one", "_law_other"] "_law_joinings" (defScope s__law_joinings) f cdv A outer s H E).env (cxOf (L2.CX P w) P w K mg base ["_law_state", "_law_names_here", "_law_spots", "_law_name", "_law_spot", "_law_found", "_law_turn", "_law_step", "_law_way", "_law_k", "_law_j", "_law_one", "_law_other"] "_law_joinings" (defScope s__law_joinings) f cdv A outer s H E).xe := passes_of rfl
    have D__law_take := (d__law_take).mono (k := 1) (by omega)
    refine' (ss_cons (ss_setLc (own := [("_law_name", 3)]) [3] rfl hN (si_any (sb_var 1)) (blkOk_by (N := ["_law_state", "_law_names_here", "_law_spots", "_law_name", "_law_spot", "_law_found", "_law_turn", "_law_step", "_law_way", "_law_k", "_law_j", "_law_one", "_law_other"]) (sc := defScope s__law_joinings) (own := [("_law_name", 3)]) (by decide +kernel)) (fun _ _ _ _ _ => (sg_name 3 hN)) (fun _ _ _ _ _ => sts_nil) (fun _ _ _ _ _ => (so_bin od_sub (SO.sb (so_call D__law_take hr takes0 (sri_ioI (sri_ro (SO.sb so_int) sri_nil (by decide) (by rfl)) (by rfl) (by first | exact Or.inl rfl | exact Or.inr (Or.inl rfl) | exact Or.inr (Or.inr rfl)) (by decide) (by decide) (by rfl)) (by rfl) (by decide) (by rfl) (by rfl))) (SO.sb so_int) (by decide))) rfl (by decide) (by decide) (by intro _; rfl) (by rfl) (by rfl) (by rfl)) (ss_cons (ss_if (st_cmpD (od_eq hr) (SO.sb (so_call D__law_take hr tk (sri_ioI (sri_ro (SO.sb so_int) sri_nil (by decide) (by rfl)) (by rfl) (by first | exact Or.inl rfl | exact Or.inr (Or.inl rfl) | exact Or.inr (Or.inr rfl)) (by decide) (by decide) (by rfl)) (by rfl) (by decide) (by rfl) (by rfl))) (SO.sb so_int) (by first | exact nomark _ | rfl) (by decide)) (ss_one (ss_setLc (own := [("_law_spot", 4)]) [4] rfl hN (si_any (sb_var 2)) (blkOk_by (N := ["_law_state", "_law_names_here", "_law_spots", "_law_name", "_law_spot", "_law_found", "_law_turn", "_law_step", "_law_way", "_law_k", "_law_j", "_law_one", "_law_other"]) (sc := defScope s__law_joinings) (own := [("_law_spot", 4)]) (by decide +kernel)) (fun _ _ _ _ _ => (sg_name 4 hN)) (fun _ _ _ _ _ => sts_nil) (fun _ _ _ _ _ => (so_bin od_mulI (sb_var 4) (SO.sb so_int) (by decide))) rfl (by decide) (by decide) (by intro _; rfl) (by rfl) (by rfl) (by rfl))) ss_nil) (ss_cons (ss_setI hN (so_lst sao_nil) (by rfl) (by first | exact .inl rfl | exact .inr rfl) (by rfl) (by first | exact .inl rfl | exact .inr rfl | assumption)) (ss_cons (ss_for hp rfl (si_range1 (by rfl) z_range (sa_cons (SO.sb (so_call D__law_take hr tk (sri_ioI (sri_ro (SO.sb (so_bin od_add (SO.sb (so_bin od_mulI (SO.sb so_int) (SO.sb (so_callB od_len (by rfl) z_len (by rfl) (sa_cons (sb_var 1) sa_nil (by decide) (by rfl)) (by decide) (by decide) (by rfl) (by rfl))) (by decide))) (SO.sb so_int) (by decide))) sri_nil (by decide) (by rfl)) (by rfl) (by first | exact Or.inl rfl | exact Or.inr (Or.inl rfl) | exact Or.inr (Or.inr rfl)) (by decide) (by decide) (by rfl)) (by rfl) (by decide) (by rfl) (by rfl))) sa_nil (by decide) (by rfl)) (by rfl)) (sg_name 6 hN) (ss_cons (ss_parI rfl hN (sao_cons (so_call D__law_take hr tk (sri_ioI (sri_ro (SO.sb (so_callB od_len (by rfl) z_len (by rfl) (sa_cons (sb_var 1) sa_nil (by decide) (by rfl)) (by decide) (by decide) (by rfl) (by rfl))) sri_nil (by decide) (by rfl)) (by rfl) (by first | exact Or.inl rfl | exact Or.inr (Or.inl rfl) | exact Or.inr (Or.inr rfl)) (by decide) (by decide) (by rfl)) (by rfl) (by decide) (by rfl) (by rfl)) (sao_cons (so_call D__law_take hr tk (sri_ioI (sri_ro (SO.sb (so_callB od_len (by rfl) z_len (by rfl) (sa_cons (sb_var 1) sa_nil (by decide) (by rfl)) (by decide) (by decide) (by rfl) (by rfl))) sri_nil (by decide) (by rfl)) (by rfl) (by first | exact Or.inl rfl | exact Or.inr (Or.inl rfl) | exact Or.inr (Or.inr rfl)) (by decide) (by decide) (by rfl)) (by rfl) (by decide) (by rfl) (by rfl)) sao_nil (by rfl)) (by rfl)) (by rfl) (by rfl) (by decide) (by rfl) (by rfl) (by rfl) (by rfl)) (ss_cons (ss_setI hN (so_bin od_sub (sb_idx hr (sb_var 2) (sb_var 10) (by exact fun _ _ => rfl) (by decide)) (sb_idx hr (sb_var 2) (sb_var 9) (by exact fun _ _ => rfl) (by decide)) (by decide)) (by rfl) (by first | exact .inl rfl | exact .inr rfl) (by rfl) (by first | exact .inl rfl | exact .inr rfl | assumption)) (ss_cons (ss_if (st_cmpD (od_eq hr) (SO.sb (so_call D__law_take hr tk (sri_ioI (sri_ro (SO.sb so_int) sri_nil (by decide) (by rfl)) (by rfl) (by first | exact Or.inl rfl | exact Or.inr (Or.inl rfl) | exact Or.inr (Or.inr rfl)) (by decide) (by decide) (by rfl)) (by rfl) (by decide) (by rfl) (by rfl))) (SO.sb so_int) (by first | exact nomark _ | rfl) (by decide)) (ss_one (ss_setI hN (so_bin od_sub (SO.sb (so_call D__law_take hr tk (sri_ioI (sri_ro (SO.sb so_int) sri_nil (by decide) (by rfl)) (by rfl) (by first | exact Or.inl rfl | exact Or.inr (Or.inl rfl) | exact Or.inr (Or.inr rfl)) (by decide) (by decide) (by rfl)) (by rfl) (by decide) (by rfl) (by rfl))) (SO.sb so_int) (by decide)) (by rfl) (by first | exact .inl rfl | exact .inr rfl) (by rfl) (by first | exact .inl rfl | exact .inr rfl | assumption))) ss_nil) (ss_cons (ss_expr (SO.sb (so_mutA (sl_var 5) (sao_cons (so_tup (sao_cons (SB.imm (sb_idx hr (sb_var 1) (sb_var 9) (by exact fun _ _ => rfl) (by decide))) (sao_cons (SB.imm (sb_idx hr (sb_var 1) (sb_var 10) (by exact fun _ _ => rfl) (by decide))) (sao_cons (so_get 7) sao_nil (by rfl)) (by rfl)) (by rfl))) sao_nil (by rfl)) (by decide) (by rfl) (by rfl) (by rfl) (by rfl) (by rfl))) (by rfl)) (ss_cons (ss_setI hN (so_call D__law_take hr tk (sri_ioI (sri_ro (SO.sb so_int) sri_nil (by decide) (by rfl)) (by rfl) (by first | exact Or.inl rfl | exact Or.inr (Or.inl rfl) | exact Or.inr (Or.inr rfl)) (by decide) (by decide) (by rfl)) (by rfl) (by decide) (by rfl) (by rfl)) (by rfl) (by first | exact .inl rfl | exact .inr rfl) (by rfl) (by first | exact .inl rfl | exact .inr rfl | assumption)) (ss_cons (ss_if (st_cmpD (od_eq hr) (sb_var 8) (SO.sb so_int) (by first | exact nomark _ | rfl) (by decide)) (ss_one (ss_asg (SB.imm (sb_idx hr (sb_var 5) (SO.sb (so_call D__law_take hr tk (sri_ioI (sri_ro (SO.sb (so_callB od_len (by rfl) z_len (by rfl) (sa_cons (sb_var 5) sa_nil (by decide) (by rfl)) (by decide) (by decide) (by rfl) (by rfl))) sri_nil (by decide) (by rfl)) (by rfl) (by first | exact Or.inl rfl | exact Or.inr (Or.inl rfl) | exact Or.inr (Or.inr rfl)) (by decide) (by decide) (by rfl)) (by rfl) (by decide) (by rfl) (by rfl))) (by exact fun _ _ => rfl) (by decide))) (sg_sub hr (W1 := fun cls d _ H => E cls d H) (W2 := fun cls d _ H => E cls d H) (sl_var 5) (SO.sb (so_neg (SO.sb so_int))) (by decide) (by intro _; rfl)) (by rfl) (by rfl) (by rfl))) ss_nil) (ss_one (ss_if (st_cmpD (od_eq hr) (sb_var 8) (SO.sb so_int) (by first | exact nomark _ | rfl) (by decide)) (ss_cons (ss_asg (SB.imm (sb_idx hr (sb_var 5) (SO.sb (so_call D__law_take hr tk (sri_ioI (sri_ro (SO.sb (so_callB od_len (by rfl) z_len (by rfl) (sa_cons (sb_var 5) sa_nil (by decide) (by rfl)) (by decide) (by decide) (by rfl) (by rfl))) sri_nil (by decide) (by rfl)) (by rfl) (by first | exact Or.inl rfl | exact Or.inr (Or.inl rfl) | exact Or.inr (Or.inr rfl)) (by decide) (by decide) (by rfl)) (by rfl) (by decide) (by rfl) (by rfl))) (by exact fun _ _ => rfl) (by decide))) (sg_tup rfl (sgs_cons (sg_name 11 hN) (sgs_cons (sg_name 12 hN) (sgs_cons (sg_name 7 hN) sgs_nil (by rfl)) (by rfl)) (by rfl)) (by rfl)) (by rfl) (by rfl) (by rfl)) (ss_one (ss_asg (so_tup (sao_cons (so_get 12) (sao_cons (so_get 11) (sao_cons (so_neg (sb_var 7)) sao_nil (by rfl)) (by rfl)) (by rfl))) (sg_sub hr (W1 := fun cls d _ H => E cls d H) (W2 := fun cls d _ H => E cls d H) (sl_var 5) (SO.sb (so_neg (SO.sb so_int))) (by decide) (by intro _; rfl)) (by rfl) (by rfl) (by rfl)))) ss_nil)))))))) (by decide) (by intro _; rfl)) (ss_one (ss_ret (so_get 5)))))))
  case hv => decide
/-! #### _law_holding -/
abbrev s__law_holding : Stmt := top 14
theorem sc__law_holding : FnScope ["_law_joinings_here", "_law_marks", "_law_held", "_law_number", "_law_one", "_law_other", "_law_step", "_law_mark", "_law_further", "_law_name"] ["_law_joinings_here"] (defScope s__law_holding) := ⟨rfl, rfl, rfl, by decide +kernel, rfl, by decide +kernel, by decide +kernel⟩
def l__law_holding_1 : CS := (sSeq (sAsg (cTup (cCons (cImm (cGet2 (cVar 1) (cVar 4) (cImm (cVar 4)))) (cCons (cImm (cGet2 (cVar 1) (cVar 5) (cImm (cVar 5)))) cNil))) (gTupD 2 (gConsD (gSet 7) (gConsD (gSet 8) gNilD)))) (sIf (cTt (c2 pNe (cVar 7) (cVar 8))) (sSeq (sExpr (cMut 2 kdL mAppend (lVar 2) (cCons (cGet 3) cNil))) (sSeq (sExpr (cMutV 1 kdM mUpdL (cCons (cLend 1 [9, 7] (cLock 1 none [9, 7] (cLc (iKeysD (cVar 1)) [9] (gSet 9) (cTt (c2 pEq (cIdx (cVar 1) (cVar 9)) (cVar 8))) (cTup (cCons (cGet 9) (cCons (cImm (cVar 7)) cNil)))))) cNil))) (sExpr (cMut 1 kdM mUpdD (lVar 1) (cCons (cDisp (((cVar 4), (cImm (cVar 7))) :: (((cVar 5), (cImm (cVar 7))) :: []))) cNil))))) sNil))
def b__law_holding : CS := (sSeq (sAsg (cK (.dct .m [] [])) (gSet 1)) (sSeq (sAsg (cLst cNil) (gSet 2)) (sSeq (sFor (iEnumG (cVar 0)) (gTupD 2 (gConsD (gSet 3) (gConsD (gTupD 3 (gConsD (gSet 4) (gConsD (gSet 5) (gConsD (gSet 6) gNilD)))) gNilD))) l__law_holding_1) (sRet (cGet 2)))))
def φ__law_holding : List D → FR := fnRun 10 [false] b__law_holding
theorem ok__law_holding {f : Addr} {fd : FuncData} (F : Fun K "_law_holding" "_law_holding" s__law_holding f fd) (z_enumerate : mg "enumerate" = none) : FnOk P w K mg base (L2.CX P w) 1 f fd ["_law_joinings_here"] (spF K mg [false] φ__law_holding) := by
  refine' fn_ok (M := _) (Vs := _) F sc__law_holding rfl ?hv fun cdv A outer s H E hr => ?hb
  case hb =>
    have hr : Room 0 (cxOf (L2.CX P w) P w K mg base ["_law_joinings_here", "_law_marks", "_law_held", "_law_number", "_law_one", "_law_other", "_law_step", "_law_mark", "_law_further", "_law_name"] "_law_holding" (defScope s__law_holding) f cdv A outer s H E).A := hr
    have hN : (cxOf (L2.CX P w) P w K mg base ["_law_joinings_here", "_law_marks", "_law_held", "_law_number", "_law_one", "_law_other", "_law_step", "_law_mark", "_law_further", "_law_name"] "_law_holding" (defScope s__law_holding) f cdv A outer s H E).N.Nodup := sc__law_holding.nd
    have tk : Takes (cxOf (L2.CX P w) P w K mg base ["_law_joinings_here", "_law_marks", "_law_held", "_law_number", "_law_one", "_law_other", "_law_step", "_law_mark", "_law_further", "_law_name"] "_law_holding" (defScope s__law_holding) f cdv A outer s H E) (fun cls d _ H => E cls d H) := takes_of rfl rfl rfl rfl
    have hp : PassesOwn (model (cxOf (L2.CX P w) P w K mg base ["_law_joinings_here", "_law_marks", "_law_held", "_law_number", "_law_one", "_law_other", "_law_step", "_law_mark", "_law_further", "_law_name"] "_law_holding" (defScope s__law_holding) f cdv A outer s H E).prog (cxOf (L2.CX P w) P w K mg base ["_law_joinings_here", "_law_marks", "_law_held", "_law_number", "_law_one", "_law_other", "_law_step", "_law_mark", "_law_further", "_law_name"] "_law_holding" (defScope s__law_holding) f cdv A outer s H E).w) (cxOf (L2.CX P w) P w K mg base ["_law_joinings_here", "_law_marks", "_law_held", "_law_number", "_law_one", "_law_other", "_law_step", "_law_mark", "_law_further", "_law_name"] "_law_holding" (defScope s__law_holding) f cdv A outer s H E).A (cxOf (L2.CX P w) P w K mg base ["_law_joinings_here", "_law_marks", "_law_held", "_law_number", "_law_one", "_law_other", "_law_step", "_law_mark", "_law_further", "_law_name"] "_law_holding" (defScope s__law_holding) f cdv A outer s H E).env (cxOf (L2.CX P w) P w K mg base ["_law_joinings_here", "_law_marks", "_law_held", "_law_number", "_law_one", "_law_other", "_law_step", "_law_mark", "_law_further", "_law_name"] "_law_holding" (defScope s__law_holding) f cdv A outer s H E).xe := passes_of rfl
    refine' (ss_cons (ss_setI hN so_dict0 (by rfl) (by first | exact .inl rfl | exact .inr rfl) (by rfl) (by first | exact .inl rfl | exact .inr rfl | assumption)) (ss_cons (ss_setI hN (so_lst sao_nil) (by rfl) (by first | exact .inl rfl | exact .inr rfl) (by rfl) (by first | exact .inl rfl | exact .inr rfl | assumption)) (ss_cons (ss_for hp rfl (si_enumG (by rfl) z_enumerate (sb_var 0) (by rfl)) (sg_tup rfl (sgs_cons (sg_name 3 hN) (sgs_cons (sg_tup rfl (sgs_cons (sg_name 4 hN) (sgs_cons (sg_name 5 hN) (sgs_cons (sg_name 6 hN) sgs_nil (by rfl)) (by rfl)) (by rfl)) (by rfl)) sgs_nil (by rfl)) (by rfl)) (by rfl)) (ss_cons (ss_asg (so_tup (sao_cons (SB.imm (sb_get2 hr (sb_var 1) (sb_var 4) (SB.imm (sb_var 4)) ⟨(by rfl), (by rfl), (by rfl), (by rfl)⟩ (by decide) (by decide))) (sao_cons (SB.imm (sb_get2 hr (sb_var 1) (sb_var 5) (SB.imm (sb_var 5)) ⟨(by rfl), (by rfl), (by rfl), (by rfl)⟩ (by decide) (by decide))) sao_nil (by rfl)) (by rfl))) (sg_tup rfl (sgs_cons (sg_name 7 hN) (sgs_cons (sg_name 8 hN) sgs_nil (by rfl)) (by rfl)) (by rfl)) (by rfl) (by rfl) (by rfl)) (ss_one (ss_if (st_cmpD (od_ne hr) (sb_var 7) (sb_var 8) (by first | exact nomark _ | rfl) (by decide)) (ss_cons (ss_expr (SO.sb (so_mutA (sl_var 2) (sao_cons (so_get 3) sao_nil (by rfl)) (by decide) (by rfl) (by rfl) (by rfl) (by rfl) (by rfl))) (by rfl)) (ss_cons (ss_expr (SO.sb (so_updLV rfl 1 (sao_cons (so_lend 1 [9, 7] (so_lock 1 none [9, 7] (so_lc (own := [("_law_name", 9)]) [9] rfl hN (si_keys (sb_var 1)) (blkOk_by (N := ["_law_joinings_here", "_law_marks", "_law_held", "_law_number", "_law_one", "_law_other", "_law_step", "_law_mark", "_law_further", "_law_name"]) (sc := defScope s__law_holding) (own := [("_law_name", 9)]) (by decide +kernel)) (fun _ _ _ _ _ => (sg_name 9 hN)) (fun _ _ _ _ _ => (sts_one (st_cmpD (od_eq hr) (sb_idx hr (sb_var 1) (sb_var 9) (by exact fun _ _ => rfl) (by decide)) (sb_var 8) (by first | exact nomark _ | rfl) (by decide)))) (fun _ _ _ _ _ => (so_tup (sao_cons (so_get 9) (sao_cons (SB.imm (sb_var 7)) sao_nil (by rfl)) (by rfl)))) rfl (by decide) (by decide) (by intro _; rfl)) (by decide) (by decide)) (by decide) (by decide)) sao_nil (by rfl)) (by rfl) (by first | exact Or.inl rfl | exact Or.inr (Or.inl rfl) | exact Or.inr (Or.inr rfl)) (by decide) (by decide) (by rfl) (by rfl) (by rfl) (by rfl) (by rfl))) (by rfl)) (ss_one (ss_expr (SO.sb (so_updD (sl_var 1) (sao_cons (so_disp (spp_cons (sb_var 4) (SB.imm (sb_var 7)) (spp_cons (sb_var 5) (SB.imm (sb_var 7)) spp_nil)) (by rfl) (by rfl) (by intro h; cases h) (by decide)) sao_nil (by rfl)) (by decide) (by rfl) (by rfl) (by rfl) (by rfl) (by rfl))) (by rfl))))) ss_nil))) (by decide) (by intro _; rfl)) (ss_one (ss_ret (so_get 2))))))
  case hv => decide
/-! #### _law_many_classes -/
abbrev s__law_many_classes : Stmt := top 15
theorem sc__law_many_classes : FnScope ["_law_names_here", "_law_joinings_here"] ["_law_names_here", "_law_joinings_here"] (defScope s__law_many_classes) := ⟨rfl, rfl, rfl, by decide +kernel, rfl, by decide +kernel, by decide +kernel⟩
def b__law_many_classes : CS := (sRet (c2 pSub (cL pLen (cCons (cVar 0) cNil)) (cL pLen (cCons (cCall φ__law_holding (aRo (cVar 1) aNil)) cNil))))
def φ__law_many_classes : List D → FR := fnRun 2 [false, false] b__law_many_classes
theorem ok__law_many_classes {f : Addr} {fd : FuncData} (F : Fun K "_law_many_classes" "_law_many_classes" s__law_many_classes f fd) (z_len : mg "len" = none) (d__law_holding : Fd P w K mg base 1 "_law_holding" ["_law_joinings_here"] [false] φ__law_holding) : FnOk P w K mg base (L2.CX P w) 2 f fd ["_law_names_here", "_law_joinings_here"] (spF K mg [false, false] φ__law_many_classes) := by
  refine' fn_ok (M := _) (Vs := _) F sc__law_many_classes rfl ?hv fun cdv A outer s H E hr => ?hb
  case hb =>
    have hr : Room 1 (cxOf (L2.CX P w) P w K mg base ["_law_names_here", "_law_joinings_here"] "_law_many_classes" (defScope s__law_many_classes) f cdv A outer s H E).A := hr
    have hN : (cxOf (L2.CX P w) P w K mg base ["_law_names_here", "_law_joinings_here"] "_law_many_classes" (defScope s__law_many_classes) f cdv A outer s H E).N.Nodup := sc__law_many_classes.nd
    have tk : Takes (cxOf (L2.CX P w) P w K mg base ["_law_names_here", "_law_joinings_here"] "_law_many_classes" (defScope s__law_many_classes) f cdv A outer s H E) (fun cls d _ H => E cls d H) := takes_of rfl rfl rfl rfl
    have hp : PassesOwn (model (cxOf (L2.CX P w) P w K mg base ["_law_names_here", "_law_joinings_here"] "_law_many_classes" (defScope s__law_many_classes) f cdv A outer s H E).prog (cxOf (L2.CX P w) P w K mg base ["_law_names_here", "_law_joinings_here"] "_law_many_classes" (defScope s__law_many_classes) f cdv A outer s H E).w) (cxOf (L2.CX P w) P w K mg base ["_law_names_here", "_law_joinings_here"] "_law_many_classes" (defScope s__law_many_classes) f cdv A outer s H E).A (cxOf (L2.CX P w) P w K mg base ["_law_names_here", "_law_joinings_here"] "_law_many_classes" (defScope s__law_many_classes) f cdv A outer s H E).env (cxOf (L2.CX P w) P w K mg base ["_law_names_here", "_law_joinings_here"] "_law_many_classes" (defScope s__law_many_classes) f cdv A outer s H E).xe := passes_of rfl
    have D__law_holding := (d__law_holding).mono (k := 1) (by omega)
    refine' (ss_one (ss_ret (so_bin od_sub (SO.sb (so_callB od_len (by rfl) z_len (by rfl) (sa_cons (sb_var 0) sa_nil (by decide) (by rfl)) (by decide) (by decide) (by rfl) (by rfl))) (SO.sb (so_callB od_len (by rfl) z_len (by rfl) (sa_cons (SO.sb (so_call D__law_holding hr tk (sri_ro (sb_var 1) sri_nil (by decide) (by rfl)) (by rfl) (by decide) (by rfl) (by rfl))) sa_nil (by decide) (by rfl)) (by decide) (by decide) (by rfl) (by rfl))) (by decide))))
  case hv => decide
/-! #### head_of -/
abbrev s_head_of : Stmt := top 4
theorem sc_head_of : FnScope ["heads", "name"] ["heads", "name"] (defScope s_head_of) := ⟨rfl, rfl, rfl, by decide +kernel, rfl, by decide +kernel, by decide +kernel⟩
def l_head_of_1 : CS := (sAsg (cImm (cIdx (cVar 0) (cVar 1))) (gSet 1))
def l_head_of_2 : CT := (cTt (c2 pNe (cGet2 (cVar 0) (cVar 1) (cImm (cVar 1))) (cVar 1)))
def b_head_of : CS := (sSeq (sWhile (fun _ => 100000) l_head_of_2 l_head_of_1) (sRet (cImm (cVar 1))))
def φ_head_of : List D → FR := fnRun 2 [false, false] b_head_of
theorem ok_head_of {f : Addr} {fd : FuncData} (F : Fun K "head_of" "head_of" s_head_of f fd)  : FnOk P w K mg base (L2.CX P w) 1 f fd ["heads", "name"] (spF K mg [false, false] φ_head_of) := by
  refine' fn_ok (M := _) (Vs := _) F sc_head_of rfl ?hv fun cdv A outer s H E hr => ?hb
  case hb =>
    have hr : Room 0 (cxOf (L2.CX P w) P w K mg base ["heads", "name"] "head_of" (defScope s_head_of) f cdv A outer s H E).A := hr
    have hN : (cxOf (L2.CX P w) P w K mg base ["heads", "name"] "head_of" (defScope s_head_of) f cdv A outer s H E).N.Nodup := sc_head_of.nd
    have tk : Takes (cxOf (L2.CX P w) P w K mg base ["heads", "name"] "head_of" (defScope s_head_of) f cdv A outer s H E) (fun cls d _ H => E cls d H) := takes_of rfl rfl rfl rfl
    have hp : PassesOwn (model (cxOf (L2.CX P w) P w K mg base ["heads", "name"] "head_of" (defScope s_head_of) f cdv A outer s H E).prog (cxOf (L2.CX P w) P w K mg base ["heads", "name"] "head_of" (defScope s_head_of) f cdv A outer s H E).w) (cxOf (L2.CX P w) P w K mg base ["heads", "name"] "head_of" (defScope s_head_of) f cdv A outer s H E).A (cxOf (L2.CX P w) P w K mg base ["heads", "name"] "head_of" (defScope s_head_of) f cdv A outer s H E).env (cxOf (L2.CX P w) P w K mg base ["heads", "name"] "head_of" (defScope s_head_of) f cdv A outer s H E).xe := passes_of rfl
    refine' (ss_cons (ss_while (fun _ => 100000) hp (st_cmpD (od_ne hr) (sb_get2 hr (sb_var 0) (sb_var 1) (SB.imm (sb_var 1)) ⟨(by rfl), (by rfl), (by rfl), (by rfl)⟩ (by decide) (by decide)) (sb_var 1) (by first | exact nomark _ | rfl) (by decide)) (ss_one (ss_setI hN (SB.imm (sb_idx hr (sb_var 0) (sb_var 1) (by exact fun _ _ => rfl) (by decide))) (by rfl) (by first | exact .inl rfl | exact .inr rfl) (by rfl) (by first | exact .inl rfl | exact .inr rfl | assumption)))) (ss_one (ss_ret (SB.imm (sb_var 1)))))
  case hv => decide
/-! #### holding_of -/
abbrev s_holding_of : Stmt := top 5
theorem sc_holding_of : FnScope ["joinings", "heads", "found", "number", "one", "other", "step", "head", "further"] ["joinings"] (defScope s_holding_of) := ⟨rfl, rfl, rfl, by decide +kernel, rfl, by decide +kernel, by decide +kernel⟩
def l_holding_of_1 : CS := (sSeq (sPar 7 8 (cCons (cCall φ_head_of (aRo (cVar 1) (aRo (cVar 4) aNil))) (cCons (cCall φ_head_of (aRo (cVar 1) (aRo (cVar 5) aNil))) cNil))) (sIf (cTt (c2 pNe (cVar 7) (cVar 8))) (sSeq (sAsg (cGet 7) (gSubD 1 (lVar 1) (cVar 8))) (sExpr (cMut 2 kdL mAppend (lVar 2) (cCons (cGet 3) cNil)))) sNil))
def b_holding_of : CS := (sSeq (sAsg (cK (.dct .m [] [])) (gSet 1)) (sSeq (sAsg (cLst cNil) (gSet 2)) (sSeq (sFor (iEnumG (cVar 0)) (gTupD 2 (gConsD (gSet 3) (gConsD (gTupD 3 (gConsD (gSet 4) (gConsD (gSet 5) (gConsD (gSet 6) gNilD)))) gNilD))) l_holding_of_1) (sRet (cGet 2)))))
def φ_holding_of : List D → FR := fnRun 9 [false] b_holding_of
theorem ok_holding_of {f : Addr} {fd : FuncData} (F : Fun K "holding_of" "holding_of" s_holding_of f fd) (z_enumerate : mg "enumerate" = none) (d_head_of : Fd P w K mg base 1 "head_of" ["heads", "name"] [false, false] φ_head_of) : FnOk P w K mg base (L2.CX P w) 2 f fd ["joinings"] (spF K mg [false] φ_holding_of) := by
  refine' fn_ok (M := _) (Vs := _) F sc_holding_of rfl ?hv fun cdv A outer s H E hr => ?hb
  case hb =>
    have hr : Room 1 (cxOf (L2.CX P w) P w K mg base ["joinings", "heads", "found", "number", "one", "other", "step", "head", "further"] "holding_of" (defScope s_holding_of) f cdv A outer s H E).A := hr
    have hN : (cxOf (L2.CX P w) P w K mg base ["joinings", "heads", "found", "number", "one", "other", "step", "head", "further"] "holding_of" (defScope s_holding_of) f cdv A outer s H E).N.Nodup := sc_holding_of.nd
    have tk : Takes (cxOf (L2.CX P w) P w K mg base ["joinings", "heads", "found", "number", "one", "other", "step", "head", "further"] "holding_of" (defScope s_holding_of) f cdv A outer s H E) (fun cls d _ H => E cls d H) := takes_of rfl rfl rfl rfl
    have hp : PassesOwn (model (cxOf (L2.CX P w) P w K mg base ["joinings", "heads", "found", "number", "one", "other", "step", "head", "further"] "holding_of" (defScope s_holding_of) f cdv A outer s H E).prog (cxOf (L2.CX P w) P w K mg base ["joinings", "heads", "found", "number", "one", "other", "step", "head", "further"] "holding_of" (defScope s_holding_of) f cdv A outer s H E).w) (cxOf (L2.CX P w) P w K mg base ["joinings", "heads", "found", "number", "one", "other", "step", "head", "further"] "holding_of" (defScope s_holding_of) f cdv A outer s H E).A (cxOf (L2.CX P w) P w K mg base ["joinings", "heads", "found", "number", "one", "other", "step", "head", "further"] "holding_of" (defScope s_holding_of) f cdv A outer s H E).env (cxOf (L2.CX P w) P w K mg base ["joinings", "heads", "found", "number", "one", "other", "step", "head", "further"] "holding_of" (defScope s_holding_of) f cdv A outer s H E).xe := passes_of rfl
    have D_head_of := (d_head_of).mono (k := 1) (by omega)
    refine' (ss_cons (ss_setI hN so_dict0 (by rfl) (by first | exact .inl rfl | exact .inr rfl) (by rfl) (by first | exact .inl rfl | exact .inr rfl | assumption)) (ss_cons (ss_setI hN (so_lst sao_nil) (by rfl) (by first | exact .inl rfl | exact .inr rfl) (by rfl) (by first | exact .inl rfl | exact .inr rfl | assumption)) (ss_cons (ss_for hp rfl (si_enumG (by rfl) z_enumerate (sb_var 0) (by rfl)) (sg_tup rfl (sgs_cons (sg_name 3 hN) (sgs_cons (sg_tup rfl (sgs_cons (sg_name 4 hN) (sgs_cons (sg_name 5 hN) (sgs_cons (sg_name 6 hN) sgs_nil (by rfl)) (by rfl)) (by rfl)) (by rfl)) sgs_nil (by rfl)) (by rfl)) (by rfl)) (ss_cons (ss_parI rfl hN (sao_cons (so_call D_head_of hr tk (sri_ro (sb_var 1) (sri_ro (sb_var 4) sri_nil (by decide) (by rfl)) (by decide) (by rfl)) (by rfl) (by decide) (by rfl) (by rfl)) (sao_cons (so_call D_head_of hr tk (sri_ro (sb_var 1) (sri_ro (sb_var 5) sri_nil (by decide) (by rfl)) (by decide) (by rfl)) (by rfl) (by decide) (by rfl) (by rfl)) sao_nil (by rfl)) (by rfl)) (by rfl) (by rfl) (by decide) (by rfl) (by rfl) (by rfl) (by rfl)) (ss_one (ss_if (st_cmpD (od_ne hr) (sb_var 7) (sb_var 8) (by first | exact nomark _ | rfl) (by decide)) (ss_cons (ss_asg (so_get 7) (sg_sub hr (W1 := fun cls d _ H => E cls d H) (W2 := fun cls d _ H => E cls d H) (sl_var 1) (sb_var 8) (by decide) (by intro _; rfl)) (by rfl) (by rfl) (by rfl)) (ss_one (ss_expr (SO.sb (so_mutA (sl_var 2) (sao_cons (so_get 3) sao_nil (by rfl)) (by decide) (by rfl) (by rfl) (by rfl) (by rfl) (by rfl))) (by rfl)))) ss_nil))) (by decide) (by intro _; rfl)) (ss_one (ss_ret (so_get 2))))))
  case hv => decide
/-! #### edges_by -/
abbrev s_edges_by : Stmt := top 1
theorem sc_edges_by : FnScope ["joinings", "numbers", "found", "number", "one", "other", "step"] ["joinings", "numbers"] (defScope s_edges_by) := ⟨rfl, rfl, rfl, by decide +kernel, rfl, by decide +kernel, by decide +kernel⟩
def l_edges_by_1 : CS := (sSeq (sAsg (cImm (cIdx (cVar 0) (cVar 3))) (gTupD 3 (gConsD (gSet 4) (gConsD (gSet 5) (gConsD (gSet 6) gNilD))))) (sIf (cTt (c2 pNe (cVar 4) (cVar 5))) (sSeq (sExpr (cMut 2 kdL mAppend (lSetd 2 (lVar 2) (cVar 4) (cLst cNil)) (cCons (cTup (cCons (cTup (cCons (cGet 3) (cCons (cK (.int 1)) cNil))) (cCons (cGet 5) cNil))) cNil))) (sExpr (cMut 2 kdL mAppend (lSetd 2 (lVar 2) (cVar 5) (cLst cNil)) (cCons (cTup (cCons (cTup (cCons (cGet 3) (cCons (c1 pNeg (cK (.int 1))) cNil))) (cCons (cGet 4) cNil))) cNil)))) sNil))
def b_edges_by : CS := (sSeq (sAsg (cK (.dct .m [] [])) (gSet 2)) (sSeq (sFor (iAnyD (cVar 1)) (gSet 3) l_edges_by_1) (sRet (cGet 2))))
def φ_edges_by : List D → FR := fnRun 7 [false, false] b_edges_by
theorem ok_edges_by {f : Addr} {fd : FuncData} (F : Fun K "edges_by" "edges_by" s_edges_by f fd)  : FnOk P w K mg base (L2.CX P w) 1 f fd ["joinings", "numbers"] (spF K mg [false, false] φ_edges_by) := by
  refine' fn_ok (M := _) (Vs := _) F sc_edges_by rfl ?hv fun cdv A outer s H E hr => ?hb
  case hb =>
    have hr : Room 0 (cxOf (L2.CX P w) P w K mg base ["joinings", "numbers", "found", "number", "one", "other", "step"] "edges_by" (defScope s_edges_by) f cdv A outer s H E).A := hr
    have hN : (cxOf (L2.CX P w) P w K mg base ["joinings", "numbers", "found", "number", "one", "other", "step"] "edges_by" (defScope s_edges_by) f cdv A outer s H E).N.Nodup := sc_edges_by.nd
    have tk : Takes (cxOf (L2.CX P w) P w K mg base ["joinings", "numbers", "found", "number", "one", "other", "step"] "edges_by" (defScope s_edges_by) f cdv A outer s H E) (fun cls d _ H => E cls d H) := takes_of rfl rfl rfl rfl
    have hp : PassesOwn (model (cxOf (L2.CX P w) P w K mg base ["joinings", "numbers", "found", "number", "one", "other", "step"] "edges_by" (defScope s_edges_by) f cdv A outer s H E).prog (cxOf (L2.CX P w) P w K mg base ["joinings", "numbers", "found", "number", "one", "other", "step"] "edges_by" (defScope s_edges_by) f cdv A outer s H E).w) (cxOf (L2.CX P w) P w K mg base ["joinings", "numbers", "found", "number", "one", "other", "step"] "edges_by" (defScope s_edges_by) f cdv A outer s H E).A (cxOf (L2.CX P w) P w K mg base ["joinings", "numbers", "found", "number", "one", "other", "step"] "edges_by" (defScope s_edges_by) f cdv A outer s H E).env (cxOf (L2.CX P w) P w K mg base ["joinings", "numbers", "found", "number", "one", "other", "step"] "edges_by" (defScope s_edges_by) f cdv A outer s H E).xe := passes_of rfl
    refine' (ss_cons (ss_setI hN so_dict0 (by rfl) (by first | exact .inl rfl | exact .inr rfl) (by rfl) (by first | exact .inl rfl | exact .inr rfl | assumption)) (ss_cons (ss_for hp rfl (si_any (sb_var 1)) (sg_name 3 hN) (ss_cons (ss_asg (SB.imm (sb_idx hr (sb_var 0) (sb_var 3) (by exact fun _ _ => rfl) (by decide))) (sg_tup rfl (sgs_cons (sg_name 4 hN) (sgs_cons (sg_name 5 hN) (sgs_cons (sg_name 6 hN) sgs_nil (by rfl)) (by rfl)) (by rfl)) (by rfl)) (by rfl) (by rfl) (by rfl)) (ss_one (ss_if (st_cmpD (od_ne hr) (sb_var 4) (sb_var 5) (by first | exact nomark _ | rfl) (by decide)) (ss_cons (ss_expr (SO.sb (so_mutA (sl_setd (sl_var 2) (sb_var 4) (so_lst sao_nil) ⟨(by rfl), (by rfl), (by rfl), (by rfl)⟩ (by decide) (by decide)) (sao_cons (so_tup (sao_cons (so_tup (sao_cons (so_get 3) (sao_cons so_int sao_nil (by rfl)) (by rfl))) (sao_cons (so_get 5) sao_nil (by rfl)) (by rfl))) sao_nil (by rfl)) (by decide) (by rfl) (by rfl) (by rfl) (by rfl) (by rfl))) (by rfl)) (ss_one (ss_expr (SO.sb (so_mutA (sl_setd (sl_var 2) (sb_var 5) (so_lst sao_nil) ⟨(by rfl), (by rfl), (by rfl), (by rfl)⟩ (by decide) (by decide)) (sao_cons (so_tup (sao_cons (so_tup (sao_cons (so_get 3) (sao_cons (so_neg (SO.sb so_int)) sao_nil (by rfl)) (by rfl))) (sao_cons (so_get 4) sao_nil (by rfl)) (by rfl))) sao_nil (by rfl)) (by decide) (by rfl) (by rfl) (by rfl) (by rfl) (by rfl))) (by rfl)))) ss_nil))) (by decide) (by intro _; rfl)) (ss_one (ss_ret (so_get 2)))))
  case hv => decide
/-! #### far_from -/
abbrev s_far_from : Stmt := top 2
theorem sc_far_from : FnScope ["edges", "start", "found", "here", "further", "name", "pair", "other"] ["edges", "start"] (defScope s_far_from) := ⟨rfl, rfl, rfl, by decide +kernel, rfl, by decide +kernel, by decide +kernel⟩
def l_far_from_1 : CS := (sIf (cTt (c2 pNotIn (cVar 7) (cVar 2))) (sSeq (sAsg (c2 pAdd (cIdx (cVar 2) (cVar 5)) (cK (.int 1))) (gSubD 2 (lVar 2) (cVar 7))) (sExpr (cMut 4 kdL mAppend (lVar 4) (cCons (cGet 7) cNil)))) sNil)
def l_far_from_2 : CS := (sFor (iAnyD (cGet2 (cVar 0) (cVar 5) (cLst cNil))) (gTupD 2 (gConsD (gSet 6) (gConsD (gSet 7) gNilD))) l_far_from_1)
def l_far_from_3 : CS := (sSeq (sAsg (cLst cNil) (gSet 4)) (sSeq (sFor (iAnyD (cVar 3)) (gSet 5) l_far_from_2) (sAsg (cGet 4) (gSet 3))))
def l_far_from_4 : CT := (cTt (c2 pGtG (cL pLen (cCons (cVar 3) cNil)) (cK (.int 0))))
def b_far_from : CS := (sSeq (sAsg (cDisp (((cVar 1), (cK (.int 0))) :: [])) (gSet 2)) (sSeq (sAsg (cLst (cCons (cGet 1) cNil)) (gSet 3)) (sSeq (sWhile (fun _ => 100000) l_far_from_4 l_far_from_3) (sRet (cGet 2)))))
def φ_far_from : List D → FR := fnRun 8 [false, false] b_far_from
theorem ok_far_from {f : Addr} {fd : FuncData} (F : Fun K "far_from" "far_from" s_far_from f fd) (z_len : mg "len" = none) : FnOk P w K mg base (L2.CX P w) 1 f fd ["edges", "start"] (spF K mg [false, false] φ_far_from) := by
  refine' fn_ok (M := _) (Vs := _) F sc_far_from rfl ?hv fun cdv A outer s H E hr => ?hb
  case hb =>
    have hr : Room 0 (cxOf (L2.CX P w) P w K mg base ["edges", "start", "found", "here", "further", "name", "pair", "other"] "far_from" (defScope s_far_from) f cdv A outer s H E).A := hr
    have hN : (cxOf (L2.CX P w) P w K mg base ["edges", "start", "found", "here", "further", "name", "pair", "other"] "far_from" (defScope s_far_from) f cdv A outer s H E).N.Nodup := sc_far_from.nd
    have tk : Takes (cxOf (L2.CX P w) P w K mg base ["edges", "start", "found", "here", "further", "name", "pair", "other"] "far_from" (defScope s_far_from) f cdv A outer s H E) (fun cls d _ H => E cls d H) := takes_of rfl rfl rfl rfl
    have hp : PassesOwn (model (cxOf (L2.CX P w) P w K mg base ["edges", "start", "found", "here", "further", "name", "pair", "other"] "far_from" (defScope s_far_from) f cdv A outer s H E).prog (cxOf (L2.CX P w) P w K mg base ["edges", "start", "found", "here", "further", "name", "pair", "other"] "far_from" (defScope s_far_from) f cdv A outer s H E).w) (cxOf (L2.CX P w) P w K mg base ["edges", "start", "found", "here", "further", "name", "pair", "other"] "far_from" (defScope s_far_from) f cdv A outer s H E).A (cxOf (L2.CX P w) P w K mg base ["edges", "start", "found", "here", "further", "name", "pair", "other"] "far_from" (defScope s_far_from) f cdv A outer s H E).env (cxOf (L2.CX P w) P w K mg base ["edges", "start", "found", "here", "further", "name", "pair", "other"] "far_from" (defScope s_far_from) f cdv A outer s H E).xe := passes_of rfl
    refine' (ss_cons (ss_setI hN (so_disp (spp_cons (sb_var 1) so_int spp_nil) (by rfl) (by rfl) (by intro h; cases h) (by decide)) (by rfl) (by first | exact .inl rfl | exact .inr rfl) (by rfl) (by first | exact .inl rfl | exact .inr rfl | assumption)) (ss_cons (ss_setI hN (so_lst (sao_cons (so_get 1) sao_nil (by rfl))) (by rfl) (by first | exact .inl rfl | exact .inr rfl) (by rfl) (by first | exact .inl rfl | exact .inr rfl | assumption)) (ss_cons (ss_while (fun _ => 100000) hp (st_cmpD (od_gtG hr) (SO.sb (so_callB od_len (by rfl) z_len (by rfl) (sa_cons (sb_var 3) sa_nil (by decide) (by rfl)) (by decide) (by decide) (by rfl) (by rfl))) (SO.sb so_int) (by first | exact nomark _ | rfl) (by decide)) (ss_cons (ss_setI hN (so_lst sao_nil) (by rfl) (by first | exact .inl rfl | exact .inr rfl) (by rfl) (by first | exact .inl rfl | exact .inr rfl | assumption)) (ss_cons (ss_for hp rfl (si_any (sb_var 3)) (sg_name 5 hN) (ss_one (ss_for hp rfl (si_any (sb_get2 hr (sb_var 0) (sb_var 5) (so_lst sao_nil) ⟨(by rfl), (by rfl), (by rfl), (by rfl)⟩ (by decide) (by decide))) (sg_tup rfl (sgs_cons (sg_name 6 hN) (sgs_cons (sg_name 7 hN) sgs_nil (by rfl)) (by rfl)) (by rfl)) (ss_one (ss_if (st_cmpD (od_notin hr) (sb_var 7) (sb_var 2) (by first | exact nomark _ | rfl) (by decide)) (ss_cons (ss_asg (so_bin od_add (sb_idx hr (sb_var 2) (sb_var 5) (by exact fun _ _ => rfl) (by decide)) (SO.sb so_int) (by decide)) (sg_sub hr (W1 := fun cls d _ H => E cls d H) (W2 := fun cls d _ H => E cls d H) (sl_var 2) (sb_var 7) (by decide) (by intro _; rfl)) (by rfl) (by rfl) (by rfl)) (ss_one (ss_expr (SO.sb (so_mutA (sl_var 4) (sao_cons (so_get 7) sao_nil (by rfl)) (by decide) (by rfl) (by rfl) (by rfl) (by rfl) (by rfl))) (by rfl)))) ss_nil)) (by decide) (by intro _; rfl))) (by decide) (by intro _; rfl)) (ss_one (ss_setI hN (so_get 4) (by rfl) (by first | exact .inl rfl | exact .inr rfl) (by rfl) (by first | exact .inl rfl | exact .inr rfl | assumption)))))) (ss_one (ss_ret (so_get 2))))))
  case hv => decide
/-! #### first_across -/
abbrev s_first_across : Stmt := top 6
theorem sc_first_across : FnScope ["joinings", "n", "side", "number", "one", "other", "step"] ["joinings", "n", "side"] (defScope s_first_across) := ⟨rfl, rfl, rfl, by decide +kernel, rfl, by decide +kernel, by decide +kernel⟩
def l_first_across_1 : CS := (sIf (tcAnd (cTt (c2 pNe (cVar 3) (cVar 1))) (cTt (c2 pNe (c2 pInW (cVar 4) (cVar 2)) (c2 pInW (cVar 5) (cVar 2))))) (sRet (cGet 3)) sNil)
def b_first_across : CS := (sSeq (sFor (iEnumG (cVar 0)) (gTupD 2 (gConsD (gSet 3) (gConsD (gTupD 3 (gConsD (gSet 4) (gConsD (gSet 5) (gConsD (gSet 6) gNilD)))) gNilD))) l_first_across_1) (sRet (cK .non)))
def φ_first_across : List D → FR := fnRun 7 [false, false, false] b_first_across
theorem ok_first_across {f : Addr} {fd : FuncData} (F : Fun K "first_across" "first_across" s_first_across f fd) (z_enumerate : mg "enumerate" = none) : FnOk P w K mg base (L2.CX P w) 1 f fd ["joinings", "n", "side"] (spF K mg [false, false, false] φ_first_across) := by
  refine' fn_ok (M := _) (Vs := _) F sc_first_across rfl ?hv fun cdv A outer s H E hr => ?hb
  case hb =>
    have hr : Room 0 (cxOf (L2.CX P w) P w K mg base ["joinings", "n", "side", "number", "one", "other", "step"] "first_across" (defScope s_first_across) f cdv A outer s H E).A := hr
    have hN : (cxOf (L2.CX P w) P w K mg base ["joinings", "n", "side", "number", "one", "other", "step"] "first_across" (defScope s_first_across) f cdv A outer s H E).N.Nodup := sc_first_across.nd
    have tk : Takes (cxOf (L2.CX P w) P w K mg base ["joinings", "n", "side", "number", "one", "other", "step"] "first_across" (defScope s_first_across) f cdv A outer s H E) (fun cls d _ H => E cls d H) := takes_of rfl rfl rfl rfl
    have hp : PassesOwn (model (cxOf (L2.CX P w) P w K mg base ["joinings", "n", "side", "number", "one", "other", "step"] "first_across" (defScope s_first_across) f cdv A outer s H E).prog (cxOf (L2.CX P w) P w K mg base ["joinings", "n", "side", "number", "one", "other", "step"] "first_across" (defScope s_first_across) f cdv A outer s H E).w) (cxOf (L2.CX P w) P w K mg base ["joinings", "n", "side", "number", "one", "other", "step"] "first_across" (defScope s_first_across) f cdv A outer s H E).A (cxOf (L2.CX P w) P w K mg base ["joinings", "n", "side", "number", "one", "other", "step"] "first_across" (defScope s_first_across) f cdv A outer s H E).env (cxOf (L2.CX P w) P w K mg base ["joinings", "n", "side", "number", "one", "other", "step"] "first_across" (defScope s_first_across) f cdv A outer s H E).xe := passes_of rfl
    refine' (ss_cons (ss_for hp rfl (si_enumG (by rfl) z_enumerate (sb_var 0) (by rfl)) (sg_tup rfl (sgs_cons (sg_name 3 hN) (sgs_cons (sg_tup rfl (sgs_cons (sg_name 4 hN) (sgs_cons (sg_name 5 hN) (sgs_cons (sg_name 6 hN) sgs_nil (by rfl)) (by rfl)) (by rfl)) (by rfl)) sgs_nil (by rfl)) (by rfl)) (by rfl)) (ss_one (ss_if (SW.st (sw_and (st_cmpD (od_ne hr) (sb_var 3) (sb_var 1) (by first | exact nomark _ | rfl) (by decide)) (sw_and1 (st_cmpD (od_ne hr) (SO.sb (so_cmpD (od_inW hr) (sb_var 4) (sb_var 2) (by first | exact nomark _ | rfl) (by decide))) (SO.sb (so_cmpD (od_inW hr) (sb_var 5) (sb_var 2) (by first | exact nomark _ | rfl) (by decide))) (by first | exact nomark _ | rfl) (by decide))))) (ss_one (ss_ret (so_get 3))) ss_nil)) (by decide) (by intro _; rfl)) (ss_one (ss_ret so_non)))
  case hv => decide
/-! #### in_place -/
abbrev s_in_place : Stmt := top 7
theorem sc_in_place : FnScope ["joinings", "held", "n", "others", "number"] ["joinings", "held", "n"] (defScope s_in_place) := ⟨rfl, rfl, rfl, by decide +kernel, rfl, by decide +kernel, by decide +kernel⟩
def b_in_place : CS := (sSeq (sAsg (cLc (iAnyD (cVar 1)) [4] (gSet 4) (cTt (c2 pNe (cVar 4) (cVar 2))) (cGet 4)) (gSet 3)) (sRet (cCall φ_first_across (aRo (cVar 0) (aRo (cVar 2) (aRo (cCall φ_far_from (aRo (cCall φ_edges_by (aRo (cVar 0) (aRo (cVar 3) aNil))) (aRo (cIdx (cIdx (cVar 0) (cVar 2)) (cK (.int 0))) aNil))) aNil))))))
def φ_in_place : List D → FR := fnRun 5 [false, false, false] b_in_place
theorem ok_in_place {f : Addr} {fd : FuncData} (F : Fun K "in_place" "in_place" s_in_place f fd) (d_edges_by : Fd P w K mg base 1 "edges_by" ["joinings", "numbers"] [false, false] φ_edges_by) (d_far_from : Fd P w K mg base 1 "far_from" ["edges", "start"] [false, false] φ_far_from) (d_first_across : Fd P w K mg base 1 "first_across" ["joinings", "n", "side"] [false, false, false] φ_first_across) : FnOk P w K mg base (L2.CX P w) 2 f fd ["joinings", "held", "n"] (spF K mg [false, false, false] φ_in_place) := by
  refine' fn_ok (M := _) (Vs := _) F sc_in_place rfl ?hv fun cdv A outer s H E hr => ?hb
  case hb =>
    have hr : Room 1 (cxOf (L2.CX P w) P w K mg base ["joinings", "held", "n", "others", "number"] "in_place" (defScope s_in_place) f cdv A outer s H E).A := hr
    have hN : (cxOf (L2.CX P w) P w K mg base ["joinings", "held", "n", "others", "number"] "in_place" (defScope s_in_place) f cdv A outer s H E).N.Nodup := sc_in_place.nd
    have tk : Takes (cxOf (L2.CX P w) P w K mg base ["joinings", "held", "n", "others", "number"] "in_place" (defScope s_in_place) f cdv A outer s H E) (fun cls d _ H => E cls d H) := takes_of rfl rfl rfl rfl
    have hp : PassesOwn (model (cxOf (L2.CX P w) P w K mg base ["joinings", "held", "n", "others", "number"] "in_place" (defScope s_in_place) f cdv A outer s H E).prog (cxOf (L2.CX P w) P w K mg base ["joinings", "held", "n", "others", "number"] "in_place" (defScope s_in_place) f cdv A outer s H E).w) (cxOf (L2.CX P w) P w K mg base ["joinings", "held", "n", "others", "number"] "in_place" (defScope s_in_place) f cdv A outer s H E).A (cxOf (L2.CX P w) P w K mg base ["joinings", "held", "n", "others", "number"] "in_place" (defScope s_in_place) f cdv A outer s H E).env (cxOf (L2.CX P w) P w K mg base ["joinings", "held", "n", "others", "number"] "in_place" (defScope s_in_place) f cdv A outer s H E).xe := passes_of rfl
    have D_edges_by := (d_edges_by).mono (k := 1) (by omega)
    have D_far_from := (d_far_from).mono (k := 1) (by omega)
    have D_first_across := (d_first_across).mono (k := 1) (by omega)
    refine' (ss_cons (ss_setLc (own := [("number", 4)]) [4] rfl hN (si_any (sb_var 1)) (blkOk_by (N := ["joinings", "held", "n", "others", "number"]) (sc := defScope s_in_place) (own := [("number", 4)]) (by decide +kernel)) (fun _ _ _ _ _ => (sg_name 4 hN)) (fun _ _ _ _ _ => (sts_one (st_cmpD (od_ne hr) (sb_var 4) (sb_var 2) (by first | exact nomark _ | rfl) (by decide)))) (fun _ _ _ _ _ => (so_get 4)) rfl (by decide) (by decide) (by intro _; rfl) (by rfl) (by rfl) (by rfl)) (ss_one (ss_ret (so_call D_first_across hr tk (sri_ro (sb_var 0) (sri_ro (sb_var 2) (sri_ro (SO.sb (so_call D_far_from hr tk (sri_ro (SO.sb (so_call D_edges_by hr tk (sri_ro (sb_var 0) (sri_ro (sb_var 3) sri_nil (by decide) (by rfl)) (by decide) (by rfl)) (by rfl) (by decide) (by rfl) (by rfl))) (sri_ro (sb_idx hr (sb_idx hr (sb_var 0) (sb_var 2) (by exact fun _ _ => rfl) (by decide)) (SO.sb so_int) (by exact fun _ _ => rfl) (by decide)) sri_nil (by decide) (by rfl)) (by decide) (by rfl)) (by rfl) (by decide) (by rfl) (by rfl))) sri_nil (by decide) (by rfl)) (by decide) (by rfl)) (by decide) (by rfl)) (by rfl) (by decide) (by rfl) (by rfl)))))
  case hv => decide
/-! #### needed -/
abbrev s_needed : Stmt := top 8
theorem sc_needed : FnScope ["names", "joinings", "held", "number"] ["names", "joinings"] (defScope s_needed) := ⟨rfl, rfl, rfl, by decide +kernel, rfl, by decide +kernel, by decide +kernel⟩
def b_needed : CS := (sSeq (sAsg (cCall φ_holding_of (aRo (cVar 1) aNil)) (gSet 2)) (sRet (cLc (iAnyD (cVar 2)) [3] (gSet 3) (cTt (c2 pIs (cCall φ_in_place (aRo (cVar 1) (aRo (cVar 2) (aRo (cVar 3) aNil)))) (cK .non))) (cGet 3))))
def φ_needed : List D → FR := fnRun 4 [false, false] b_needed
theorem ok_needed {f : Addr} {fd : FuncData} (F : Fun K "needed" "needed" s_needed f fd) (d_holding_of : Fd P w K mg base 2 "holding_of" ["joinings"] [false] φ_holding_of) (d_in_place : Fd P w K mg base 2 "in_place" ["joinings", "held", "n"] [false, false, false] φ_in_place) : FnOk P w K mg base (L2.CX P w) 3 f fd ["names", "joinings"] (spF K mg [false, false] φ_needed) := by
  refine' fn_ok (M := _) (Vs := _) F sc_needed rfl ?hv fun cdv A outer s H E hr => ?hb
  case hb =>
    have hr : Room 2 (cxOf (L2.CX P w) P w K mg base ["names", "joinings", "held", "number"] "needed" (defScope s_needed) f cdv A outer s H E).A := hr
    have hN : (cxOf (L2.CX P w) P w K mg base ["names", "joinings", "held", "number"] "needed" (defScope s_needed) f cdv A outer s H E).N.Nodup := sc_needed.nd
    have tk : Takes (cxOf (L2.CX P w) P w K mg base ["names", "joinings", "held", "number"] "needed" (defScope s_needed) f cdv A outer s H E) (fun cls d _ H => E cls d H) := takes_of rfl rfl rfl rfl
    have hp : PassesOwn (model (cxOf (L2.CX P w) P w K mg base ["names", "joinings", "held", "number"] "needed" (defScope s_needed) f cdv A outer s H E).prog (cxOf (L2.CX P w) P w K mg base ["names", "joinings", "held", "number"] "needed" (defScope s_needed) f cdv A outer s H E).w) (cxOf (L2.CX P w) P w K mg base ["names", "joinings", "held", "number"] "needed" (defScope s_needed) f cdv A outer s H E).A (cxOf (L2.CX P w) P w K mg base ["names", "joinings", "held", "number"] "needed" (defScope s_needed) f cdv A outer s H E).env (cxOf (L2.CX P w) P w K mg base ["names", "joinings", "held", "number"] "needed" (defScope s_needed) f cdv A outer s H E).xe := passes_of rfl
    have D_holding_of := (d_holding_of).mono (k := 2) (by omega)
    have D_in_place := (d_in_place).mono (k := 2) (by omega)
    refine' (ss_cons (ss_setI hN (so_call D_holding_of hr tk (sri_ro (sb_var 1) sri_nil (by decide) (by rfl)) (by rfl) (by decide) (by rfl) (by rfl)) (by rfl) (by first | exact .inl rfl | exact .inr rfl) (by rfl) (by first | exact .inl rfl | exact .inr rfl | assumption)) (ss_one (ss_ret (so_lc (own := [("number", 3)]) [3] rfl hN (si_any (sb_var 2)) (blkOk_by (N := ["names", "joinings", "held", "number"]) (sc := defScope s_needed) (own := [("number", 3)]) (by decide +kernel)) (fun _ _ _ _ _ => (sg_name 3 hN)) (fun _ _ _ _ _ => (sts_one (st_cmpD od_is (SO.sb (so_call D_in_place hr takes0 (sri_ro (sb_var 1) (sri_ro (sb_var 2) (sri_ro (sb_var 3) sri_nil (by decide) (by rfl)) (by decide) (by rfl)) (by decide) (by rfl)) (by rfl) (by decide) (by rfl) (by rfl))) (SO.sb so_non) (by first | exact nomark _ | rfl) (by decide)))) (fun _ _ _ _ _ => (so_get 3)) rfl (by decide) (by decide) (by intro _; rfl)))))
  case hv => decide
/-! #### _law_right -/
abbrev s__law_right : Stmt := top 16
theorem sc__law_right : FnScope ["_law_names_here", "_law_joinings_here", "_law_many", "_law_due", "_law_number", "_law_kept", "_law_handed", "_law_row", "_law_found"] ["_law_names_here", "_law_joinings_here"] (defScope s__law_right) := ⟨rfl, rfl, rfl, by decide +kernel, rfl, by decide +kernel, by decide +kernel⟩
def l__law_right_1 : CS := (sIf (cTt (c2 pGtG (cCall φ__law_many_classes (aRo (cVar 0) (aRo (c2 pAdd (cSl (cVar 1) pNo (pAt (cVar 4))) (cSl (cVar 1) (pAt (c2 pAdd (cVar 4) (cK (.int 1)))) pNo)) aNil))) (cVar 2))) (sExpr (cMut 3 kdL mAppend (lVar 3) (cCons (cGet 4) cNil))) sNil)
def l__law_right_2 : CS := (sSeq (sAsg (cCall φ_needed (aRo (cVar 6) (aRo (cVar 7) aNil))) (gSet 8)) (sSeq (sIf (tcOr (cTt (c2 pNe (cL pRepr (cCons (cVar 8) cNil)) (cL pRepr (cCons (cVar 3) cNil)))) (cTt (c2 pNe (cL pListG (cCons (cVar 7) cNil)) (cVar 5)))) (sRet (cK (.bl false))) sNil) (sSeq (sExpr (cMut 8 kdL mReverse (lVar 8) cNil)) (sExpr (cMut 8 kdL mAppend (lVar 8) (cCons (cK (.int 0)) cNil))))))
def b__law_right : CS := (sSeq (sAsg (cCall φ__law_many_classes (aRo (cVar 0) (aRo (cVar 1) aNil))) (gSet 2)) (sSeq (sAsg (cLst cNil) (gSet 3)) (sSeq (sFor (iRange1 (cCons (cL pLen (cCons (cVar 1) cNil)) cNil)) (gSet 4) l__law_right_1) (sSeq (sAsg (cL pListG (cCons (cVar 1) cNil)) (gSet 5)) (sSeq (sFor (iAnyD (cTup (cCons (cTup (cCons (cGet 0) (cCons (cGet 1) cNil))) (cCons (cTup (cCons (cL pTuple (cCons (cVar 0) cNil)) (cCons (cL pTuple (cCons (cVar 1) cNil)) cNil))) (cCons (cTup (cCons (cFix (cRevL (cVar 0))) (cCons (cGet 1) cNil))) cNil))))) (gTupD 2 (gConsD (gSet 6) (gConsD (gSet 7) gNilD))) l__law_right_2) (sRet (c2 pEq (cCall φ_needed (aRo (cVar 0) (aRo (c2 pAdd (cVar 1) (cVar 1)) aNil))) (cLst cNil))))))))
def φ__law_right : List D → FR := fnRun 9 [false, false] b__law_right
theorem ok__law_right {f : Addr} {fd : FuncData} (F : Fun K "_law_right" "_law_right" s__law_right f fd) (z_len : mg "len" = none) (z_range : mg "range" = none) (z_list : mg "list" = none) (z_tuple : mg "tuple" = none) (z_reversed : mg "reversed" = none) (z_repr : mg "repr" = none) (d__law_many_classes : Fd P w K mg base 2 "_law_many_classes" ["_law_names_here", "_law_joinings_here"] [false, false] φ__law_many_classes) (d_needed : Fd P w K mg base 3 "needed" ["names", "joinings"] [false, false] φ_needed) : FnG P w K mg base 4 f fd ["_law_names_here", "_law_joinings_here"] (spF K mg [false, false] φ__law_right) := by
  refine' fn_okG (M := _) (Vs := _) F sc__law_right rfl ?hv fun cdv A outer s H E hr hG => ?hb
  case hb =>
    have hr : Room 3 (cxOf (L2.CX P w) P w K mg base ["_law_names_here", "_law_joinings_here", "_law_many", "_law_due", "_law_number", "_law_kept", "_law_handed", "_law_row", "_law_found"] "_law_right" (defScope s__law_right) f cdv A outer s H E).A := hr
    have hG : (cxOf (L2.CX P w) P w K mg base ["_law_names_here", "_law_joinings_here", "_law_many", "_law_due", "_law_number", "_law_kept", "_law_handed", "_law_row", "_law_found"] "_law_right" (defScope s__law_right) f cdv A outer s H E).A.guards = some [] := hG
    have hN : (cxOf (L2.CX P w) P w K mg base ["_law_names_here", "_law_joinings_here", "_law_many", "_law_due", "_law_number", "_law_kept", "_law_handed", "_law_row", "_law_found"] "_law_right" (defScope s__law_right) f cdv A outer s H E).N.Nodup := sc__law_right.nd
    have tk : Takes (cxOf (L2.CX P w) P w K mg base ["_law_names_here", "_law_joinings_here", "_law_many", "_law_due", "_law_number", "_law_kept", "_law_handed", "_law_row", "_law_found"] "_law_right" (defScope s__law_right) f cdv A outer s H E) (fun cls d _ H => E cls d H) := takes_of rfl rfl rfl rfl
    have hp : PassesOwn (model (cxOf (L2.CX P w) P w K mg base ["_law_names_here", "_law_joinings_here", "_law_many", "_law_due", "_law_number", "_law_kept", "_law_handed", "_law_row", "_law_found"] "_law_right" (defScope s__law_right) f cdv A outer s H E).prog (cxOf (L2.CX P w) P w K mg base ["_law_names_here", "_law_joinings_here", "_law_many", "_law_due", "_law_number", "_law_kept", "_law_handed", "_law_row", "_law_found"] "_law_right" (defScope s__law_right) f cdv A outer s H E).w) (cxOf (L2.CX P w) P w K mg base ["_law_names_here", "_law_joinings_here", "_law_many", "_law_due", "_law_number", "_law_kept", "_law_handed", "_law_row", "_law_found"] "_law_right" (defScope s__law_right) f cdv A outer s H E).A (cxOf (L2.CX P w) P w K mg base ["_law_names_here", "_law_joinings_here", "_law_many", "_law_due", "_law_number", "_law_kept", "_law_handed", "_law_row", "_law_found"] "_law_right" (defScope s__law_right) f cdv A outer s H E).env (cxOf (L2.CX P w) P w K mg base ["_law_names_here", "_law_joinings_here", "_law_many", "_law_due", "_law_number", "_law_kept", "_law_handed", "_law_row", "_law_found"] "_law_right" (defScope s__law_right) f cdv A outer s H E).xe := passes_of rfl
    have D__law_many_classes := (d__law_many_classes).mono (k := 3) (by omega)
    have D_needed := (d_needed).mono (k := 3) (by omega)
    refine' (ss_cons (ss_setI hN (so_call D__law_many_classes hr tk (sri_ro (sb_var 0) (sri_ro (sb_var 1) sri_nil (by decide) (by rfl)) (by decide) (by rfl)) (by rfl) (by decide) (by rfl) (by rfl)) (by rfl) (by first | exact .inl rfl | exact .inr rfl) (by rfl) (by first | exact .inl rfl | exact .inr rfl | assumption)) (ss_cons (ss_setI hN (so_lst sao_nil) (by rfl) (by first | exact .inl rfl | exact .inr rfl) (by rfl) (by first | exact .inl rfl | exact .inr rfl | assumption)) (ss_cons (ss_for hp rfl (si_range1 (by rfl) z_range (sa_cons (SO.sb (so_callB od_len (by rfl) z_len (by rfl) (sa_cons (sb_var 1) sa_nil (by decide) (by rfl)) (by decide) (by decide) (by rfl) (by rfl))) sa_nil (by decide) (by rfl)) (by rfl)) (sg_name 4 hN) (ss_one (ss_if (st_cmpD (od_gtG hr) (SO.sb (so_call D__law_many_classes hr tk (sri_ro (sb_var 0) (sri_ro (SO.sb (so_bin od_add (SO.sb (so_slice (sb_var 1) sp_no (sp_at (sb_var 4)) (by decide))) (SO.sb (so_slice (sb_var 1) (sp_at (SO.sb (so_bin od_add (sb_var 4) (SO.sb so_int) (by decide)))) sp_no (by decide))) (by decide))) sri_nil (by decide) (by rfl)) (by decide) (by rfl)) (by rfl) (by decide) (by rfl) (by rfl))) (sb_var 2) (by first | exact nomark _ | rfl) (by decide)) (ss_one (ss_expr (SO.sb (so_mutA (sl_var 3) (sao_cons (so_get 4) sao_nil (by rfl)) (by decide) (by rfl) (by rfl) (by rfl) (by rfl) (by rfl))) (by rfl))) ss_nil)) (by decide) (by intro _; rfl)) (ss_cons (ss_setI hN (so_callTy (od_listG rfl) (by rfl) z_list (by rfl) (sa_cons (sb_var 1) sa_nil (by decide) (by rfl)) (by decide) (by decide) (by rfl) (by rfl)) (by rfl) (by first | exact .inl rfl | exact .inr rfl) (by rfl) (by first | exact .inl rfl | exact .inr rfl | assumption)) (ss_cons (ss_for hp rfl (si_any (SO.sb (so_tup (sao_cons (so_tup (sao_cons (so_get 0) (sao_cons (so_get 1) sao_nil (by rfl)) (by rfl))) (sao_cons (so_tup (sao_cons (so_callTy od_tuple (by rfl) z_tuple (by rfl) (sa_cons (sb_var 0) sa_nil (by decide) (by rfl)) (by decide) (by decide) (by rfl) (by rfl)) (sao_cons (so_callTy od_tuple (by rfl) z_tuple (by rfl) (sa_cons (sb_var 1) sa_nil (by decide) (by rfl)) (by decide) (by decide) (by rfl) (by rfl)) sao_nil (by rfl)) (by rfl))) (sao_cons (so_tup (sao_cons (so_fix (so_revL rfl (by rfl) z_list (by rfl) z_reversed (sb_var 0) (by rfl) (by rfl))) (sao_cons (so_get 1) sao_nil (by rfl)) (by rfl))) sao_nil (by rfl)) (by rfl)) (by rfl))))) (sg_tup rfl (sgs_cons (sg_name 6 hN) (sgs_cons (sg_name 7 hN) sgs_nil (by rfl)) (by rfl)) (by rfl)) (ss_cons (ss_setI hN (so_call D_needed hr tk (sri_ro (sb_var 6) (sri_ro (sb_var 7) sri_nil (by decide) (by rfl)) (by decide) (by rfl)) (by rfl) (by decide) (by rfl) (by rfl)) (by rfl) (by first | exact .inl rfl | exact .inr rfl) (by rfl) (by first | exact .inl rfl | exact .inr rfl | assumption)) (ss_cons (ss_if (SW.st (sw_or (st_cmpD (od_ne hr) (SO.sb (so_callB (od_repr hr hG) (by rfl) z_repr (by rfl) (sa_cons (sb_var 8) sa_nil (by decide) (by rfl)) (by decide) (by decide) (by rfl) (by rfl))) (SO.sb (so_callB (od_repr hr hG) (by rfl) z_repr (by rfl) (sa_cons (sb_var 3) sa_nil (by decide) (by rfl)) (by decide) (by decide) (by rfl) (by rfl))) (by first | exact nomark _ | rfl) (by decide)) (sw_or1 (st_cmpD (od_ne hr) (SO.sb (so_callTy (od_listG rfl) (by rfl) z_list (by rfl) (sa_cons (sb_var 7) sa_nil (by decide) (by rfl)) (by decide) (by decide) (by rfl) (by rfl))) (sb_var 5) (by first | exact nomark _ | rfl) (by decide))))) (ss_one (ss_ret so_bl)) ss_nil) (ss_cons (ss_expr (SO.sb (so_reverse (sl_var 8) (by rfl) (by rfl))) (by rfl)) (ss_one (ss_expr (SO.sb (so_mutA (sl_var 8) (sao_cons so_int sao_nil (by rfl)) (by decide) (by rfl) (by rfl) (by rfl) (by rfl) (by rfl))) (by rfl)))))) (by decide) (by intro _; rfl)) (ss_one (ss_ret (so_cmpD (od_eq hr) (SO.sb (so_call D_needed hr tk (sri_ro (sb_var 0) (sri_ro (SO.sb (so_bin od_add (sb_var 1) (sb_var 1) (by decide))) sri_nil (by decide) (by rfl)) (by decide) (by rfl)) (by rfl) (by decide) (by rfl) (by rfl))) (SO.sb (so_lst sao_nil)) (by first | exact nomark _ | rfl) (by decide)))))))))
  case hv => decide
/-! #### law -/
abbrev s_law : Stmt := top 17
theorem sc_law : FnScope ["_law_script", "_law_state", "_law_turn", "_law_names_here", "_law_joinings_here"] ["_law_script"] (defScope s_law) := ⟨rfl, rfl, rfl, by decide +kernel, rfl, by decide +kernel, by decide +kernel⟩
def l_law_1 : CS := (sSeq (sAsg (cCall φ__law_names (aOw (cMv 1) (some 1) aNil)) (gSet 3)) (sSeq (sAsg (cCall φ__law_joinings (aOw (cMv 1) (some 1) (aRo (cVar 3) aNil))) (gSet 4)) (sSeq (sIf (cTt (c2 pEq (cCall φ__law_take (aOw (cMv 1) (some 1) (aRo (cK (.int 2)) aNil))) (cK (.int 0)))) (sAsg (cSl (cVar 4) pNo (pAt (cL pLen (cCons (cVar 3) cNil)))) (gSet 4)) sNil) (sIf (tcNot (cTt (cCall φ__law_right (aRo (cVar 3) (aRo (cVar 4) aNil))))) (sRet (cK (.bl false))) sNil))))
def b_law : CS := (sSeq (sAsg (cCall φ__law_begin (aRo (cVar 0) aNil)) (gSet 1)) (sSeq (sFor (iRange1 (cCons (c2 pAdd (cK (.int 1)) (cCall φ__law_take (aOw (cMv 1) (some 1) (aRo (cK (.int 2)) aNil)))) cNil)) (gSet 2) l_law_1) (sRet (cK (.bl true)))))
def φ_law : List D → FR := fnRun 5 [false] b_law
theorem ok_law {f : Addr} {fd : FuncData} (F : Fun K "law" "law" s_law f fd) (z_range : mg "range" = none) (z_len : mg "len" = none) (d__law_begin : Fd P w K mg base 1 "_law_begin" ["_law_script"] [false] φ__law_begin) (d__law_take : Fd P w K mg base 1 "_law_take" ["_law_state", "_law_many"] [true, false] φ__law_take) (d__law_names : Fd P w K mg base 2 "_law_names" ["_law_state"] [true] φ__law_names) (d__law_joinings : Fd P w K mg base 2 "_law_joinings" ["_law_state", "_law_names_here"] [true, false] φ__law_joinings) (d__law_right : FdG P w K mg base 4 "_law_right" ["_law_names_here", "_law_joinings_here"] [false, false] φ__law_right) : FnG P w K mg base 5 f fd ["_law_script"] (spF K mg [false] φ_law) := by
  refine' fn_okG (M := _) (Vs := _) F sc_law rfl ?hv fun cdv A outer s H E hr hG => ?hb
  case hb =>
    have hr : Room 4 (cxOf (L2.CX P w) P w K mg base ["_law_script", "_law_state", "_law_turn", "_law_names_here", "_law_joinings_here"] "law" (defScope s_law) f cdv A outer s H E).A := hr
    have hG : (cxOf (L2.CX P w) P w K mg base ["_law_script", "_law_state", "_law_turn", "_law_names_here", "_law_joinings_here"] "law" (defScope s_law) f cdv A outer s H E).A.guards = some [] := hG
    have hN : (cxOf (L2.CX P w) P w K mg base ["_law_script", "_law_state", "_law_turn", "_law_names_here", "_law_joinings_here"] "law" (defScope s_law) f cdv A outer s H E).N.Nodup := sc_law.nd
    have tk : Takes (cxOf (L2.CX P w) P w K mg base ["_law_script", "_law_state", "_law_turn", "_law_names_here", "_law_joinings_here"] "law" (defScope s_law) f cdv A outer s H E) (fun cls d _ H => E cls d H) := takes_of rfl rfl rfl rfl
    have hp : PassesOwn (model (cxOf (L2.CX P w) P w K mg base ["_law_script", "_law_state", "_law_turn", "_law_names_here", "_law_joinings_here"] "law" (defScope s_law) f cdv A outer s H E).prog (cxOf (L2.CX P w) P w K mg base ["_law_script", "_law_state", "_law_turn", "_law_names_here", "_law_joinings_here"] "law" (defScope s_law) f cdv A outer s H E).w) (cxOf (L2.CX P w) P w K mg base ["_law_script", "_law_state", "_law_turn", "_law_names_here", "_law_joinings_here"] "law" (defScope s_law) f cdv A outer s H E).A (cxOf (L2.CX P w) P w K mg base ["_law_script", "_law_state", "_law_turn", "_law_names_here", "_law_joinings_here"] "law" (defScope s_law) f cdv A outer s H E).env (cxOf (L2.CX P w) P w K mg base ["_law_script", "_law_state", "_law_turn", "_law_names_here", "_law_joinings_here"] "law" (defScope s_law) f cdv A outer s H E).xe := passes_of rfl
    have D__law_begin := (d__law_begin).mono (k := 4) (by omega)
    have D__law_take := (d__law_take).mono (k := 4) (by omega)
    have D__law_names := (d__law_names).mono (k := 4) (by omega)
    have D__law_joinings := (d__law_joinings).mono (k := 4) (by omega)
    have D__law_right := (d__law_right).mono (k := 4) (by omega)
    refine' (ss_cons (ss_setI hN (so_call D__law_begin hr tk (sri_ro (sb_var 0) sri_nil (by decide) (by rfl)) (by rfl) (by decide) (by rfl) (by rfl)) (by rfl) (by first | exact .inl rfl | exact .inr rfl) (by rfl) (by first | exact .inl rfl | exact .inr rfl | assumption)) (ss_cons (ss_for hp rfl (si_range1 (by rfl) z_range (sa_cons (SO.sb (so_bin od_add (SO.sb so_int) (SO.sb (so_call D__law_take hr tk (sri_ioI (sri_ro (SO.sb so_int) sri_nil (by decide) (by rfl)) (by rfl) (by first | exact Or.inl rfl | exact Or.inr (Or.inl rfl) | exact Or.inr (Or.inr rfl)) (by decide) (by decide) (by rfl)) (by rfl) (by decide) (by rfl) (by rfl))) (by decide))) sa_nil (by decide) (by rfl)) (by rfl)) (sg_name 2 hN) (ss_cons (ss_setI hN (so_call D__law_names hr tk (sri_ioI sri_nil (by rfl) (by first | exact Or.inl rfl | exact Or.inr (Or.inl rfl) | exact Or.inr (Or.inr rfl)) (by decide) (by decide) (by rfl)) (by rfl) (by decide) (by rfl) (by rfl)) (by rfl) (by first | exact .inl rfl | exact .inr rfl) (by rfl) (by first | exact .inl rfl | exact .inr rfl | assumption)) (ss_cons (ss_setI hN (so_call D__law_joinings hr tk (sri_ioI (sri_ro (sb_var 3) sri_nil (by decide) (by rfl)) (by rfl) (by first | exact Or.inl rfl | exact Or.inr (Or.inl rfl) | exact Or.inr (Or.inr rfl)) (by decide) (by decide) (by rfl)) (by rfl) (by decide) (by rfl) (by rfl)) (by rfl) (by first | exact .inl rfl | exact .inr rfl) (by rfl) (by first | exact .inl rfl | exact .inr rfl | assumption)) (ss_cons (ss_if (st_cmpD (od_eq hr) (SO.sb (so_call D__law_take hr tk (sri_ioI (sri_ro (SO.sb so_int) sri_nil (by decide) (by rfl)) (by rfl) (by first | exact Or.inl rfl | exact Or.inr (Or.inl rfl) | exact Or.inr (Or.inr rfl)) (by decide) (by decide) (by rfl)) (by rfl) (by decide) (by rfl) (by rfl))) (SO.sb so_int) (by first | exact nomark _ | rfl) (by decide)) (ss_one (ss_setI hN (so_slice (sb_var 4) sp_no (sp_at (SO.sb (so_callB od_len (by rfl) z_len (by rfl) (sa_cons (sb_var 3) sa_nil (by decide) (by rfl)) (by decide) (by decide) (by rfl) (by rfl)))) (by decide)) (by rfl) (by first | exact .inl rfl | exact .inr rfl) (by rfl) (by first | exact .inl rfl | exact .inr rfl | assumption))) ss_nil) (ss_one (ss_if (st_not (st_val (SO.sb (so_callG D__law_right hr hG tk (sri_ro (sb_var 3) (sri_ro (sb_var 4) sri_nil (by decide) (by rfl)) (by decide) (by rfl)) (by rfl) (by decide) (by rfl) (by rfl))) (by intro _; rfl))) (ss_one (ss_ret so_bl)) ss_nil))))) (by decide) (by intro _; rfl)) (ss_one (ss_ret so_bl))))
  case hv => decide
end

end VS

set_option maxRecDepth 100000
set_option maxHeartbeats 0
namespace VS
open PySem L2 SeqAt
theorem lc_flt {α : Type} {f : α → D} {vs : List Nat} {g : D → Env → Option Env} {ct : CT} {ce : CE} {env : Env} {y : α → D} {t : α → Bool} : ∀ {xs : List α}, (∀ x ∈ xs, ∃ env1, g (f x) env = some env1 ∧ env1.length = env.length ∧ ct env1 = .ok (t x) env1 ∧ (t x = true → ce env1 = .ok (y x) env1) ∧ wipeE env1 vs = env) →
    lcRun vs g ct ce (xs.map f) env = some ((xs.filter t).map y, env)
  | [], _ => rfl
  | d :: ds, h => by
    obtain ⟨env1, h1, h2, h3, h4, h5⟩ := h d (by simp)
    have ih := lc_flt (f := f) (vs := vs) (g := g) (ct := ct) (ce := ce) (env := env) (y := y) (t := t) (xs := ds) fun d hd => h d (by simp [hd])
    rw [List.map_cons]
    unfold lcRun
    cases ht : t d with
    | true => rw [ht] at h3; simp [h1, h2, h3, h4 ht, h5, ih, ht]
    | false => rw [ht] at h3; simp [h1, h2, h3, h5, ih, ht]
theorem lc_mp {α : Type} {f : α → D} {vs : List Nat} {g : D → Env → Option Env} {ce : CE} {env : Env} {y : α → D} {xs : List α} (h : ∀ x ∈ xs, ∃ env1, g (f x) env = some env1 ∧ env1.length = env.length ∧ ce env1 = .ok (y x) env1 ∧ wipeE env1 vs = env) :
    lcRun vs g cYes ce (xs.map f) env = some (xs.map y, env) := by
  have := lc_flt (f := f) (vs := vs) (g := g) (ct := cYes) (ce := ce) (env := env) (y := y) (t := fun _ => true) (xs := xs) fun x hx => by
    obtain ⟨env1, h1, h2, h3, h4⟩ := h x hx
    exact ⟨env1, h1, h2, rfl, fun _ => h3, h4⟩
  rw [this, List.filter_eq_self.mpr fun _ _ => rfl]
def takeD : D → D → Option D
  | .tup ds, .int i => atI ds i
  | .lst .m ds, .int i => atI ds i
  | _, _ => none
theorem takeD_r (d y : D) (env : Env) : (match d, y with
  | .tup ds, .int i => R.of (atI ds i) env
  | .lst .m ds, .int i => R.of (atI ds i) env
  | _, _ => .err) = R.of (takeD d y) env := by
  unfold takeD
  split <;> first | rfl | (split <;> first | rfl | simp_all)
@[simp] theorem e_take (ca cb : CE) (env : Env) : cTake ca cb env = (ca env).bind fun d env => (cb env).bind fun y env => R.of (takeD d y) env := by
  unfold cTake
  congr 1; funext d env; congr 1; funext y env
  exact takeD_r d y env
@[simp] theorem takeD_t (ds : List D) (i : Int) : takeD (.tup ds) (.int i) = atI ds i := (rfl)
@[simp] theorem takeD_l (ds : List D) (i : Int) : takeD (.lst .m ds) (.int i) = atI ds i := (rfl)
theorem seq_nx {c1 c2 : CS} {env env1 : Env} {o : O} (h1 : c1 env = .nx env1) (h2 : c2 env1 = o) : sSeq c1 c2 env = o := by rw [e_seq, h1]; exact h2
theorem fn_rt {n : Nat} {io : List Bool} {b : CS} {ds os : List D} {d : D} {env env0 : Env} (h1 : ds.length = io.length ∧ io.length ≤ n) (h0 : fnEnv n ds = env0) (hb : b env0 = .rt d env) (ho : outsOf io env = some os) : fnRun n io b ds = .ok d os := by
  unfold fnRun
  rw [if_pos h1, h0, hb]
  simp [fnEnd, ho]
theorem fn_nx {n : Nat} {io : List Bool} {b : CS} {ds os : List D} {env env0 : Env} (h1 : ds.length = io.length ∧ io.length ≤ n) (h0 : fnEnv n ds = env0) (hb : b env0 = .nx env) (ho : outsOf io env = some os) : fnRun n io b ds = .ok .non os := by
  unfold fnRun
  rw [if_pos h1, h0, hb]
  simp [fnEnd, ho]
mutual
theorem pyEq_refl : ∀ {n : Nat} {d : D}, eqOk n d = true → pyEq d d = true
  | _, .non, _ => by unfold pyEq; rfl
  | _, .bl b, _ => by unfold pyEq; simp
  | _, .int i, _ => by unfold pyEq; simp
  | _, .str s, _ => by unfold pyEq; simp
  | n + 1, .lst g ds, h => by unfold eqOk at h; unfold pyEq; exact pyEqs_refl h
  | n + 1, .tup ds, h => by unfold eqOk at h; unfold pyEq; exact pyEqs_refl h
  | 0, .lst g ds, h => by simp [eqOk] at h
  | 0, .tup ds, h => by simp [eqOk] at h
  | _, .ty _, h => by simp [eqOk] at h
  | _, .dct _ _ _, h => by simp [eqOk] at h
  | _, .obj _ _ _ _, h => by simp [eqOk] at h
theorem pyEqs_refl : ∀ {n : Nat} {ds : List D}, eqOks n ds = true → pyEqs ds ds = true
  | _, [], _ => by unfold pyEqs; rfl
  | n, d :: ds, h => by
    unfold eqOks at h
    have := Bool.and_eq_true_iff.mp h
    unfold pyEqs
    rw [pyEq_refl this.1, pyEqs_refl this.2]; rfl
end
theorem ne_self {g g' : Fl} {ds : List D} (h : eqOks 39 ds = true) : pNe (.lst g ds) (.lst g' ds) = some (.bl false) := by
  have e : eqOk 40 (.lst g ds) = true := by unfold eqOk; exact h
  have e' : eqOk 40 (.lst g' ds) = true := by unfold eqOk; exact h
  have p : pyEq (.lst g ds) (.lst g' ds) = true := by unfold pyEq; exact pyEqs_refl h
  unfold pNe; rw [e, e', p]; rfl
theorem eq_self {g g' : Fl} {ds : List D} (h : eqOks 39 ds = true) : pEq (.lst g ds) (.lst g' ds) = some (.bl true) := by
  have e : eqOk 40 (.lst g ds) = true := by unfold eqOk; exact h
  have e' : eqOk 40 (.lst g' ds) = true := by unfold eqOk; exact h
  have p : pyEq (.lst g ds) (.lst g' ds) = true := by unfold pyEq; exact pyEqs_refl h
  unfold pEq; rw [e, e', p]; rfl
theorem numD_mp {α : Type} (f : α → D) : ∀ (k : Nat) (xs : List α), numD k (xs.map f) = (xs.zipIdx k).map fun p => D.tup [.int (p.2 : Nat), f p.1]
  | _, [] => rfl
  | k, n :: ns => by simp [numD, numD_mp f (k + 1) ns]
end VS

set_option maxRecDepth 100000
set_option maxHeartbeats 0
namespace VS
open PySem L2 SeqAt
/-! ### joinings that hold -/
section
variable {js : List J}
/-- those of the first k that are picked -/
def sel (js : List J) (p : Nat → Bool) : Nat → List J
  | 0 => []
  | k + 1 => match js[k]? with
    | some j => if p k then sel js p k ++ [j] else sel js p k
    | none => sel js p k
theorem sel_mem {p : Nat → Bool} : ∀ {k : Nat} {j : J}, j ∈ sel js p k ↔ ∃ i, i < k ∧ js[i]? = some j ∧ p i = true
  | 0, j => by simp [sel]
  | k + 1, j => by
    have ih := sel_mem (p := p) (k := k) (j := j)
    unfold sel
    cases e : js[k]? with
    | none =>
      simp only
      rw [ih]
      constructor
      · rintro ⟨i, h, r⟩; exact ⟨i, by omega, r⟩
      · rintro ⟨i, h, r, q⟩
        refine ⟨i, ?_, r, q⟩
        have : i ≠ k := fun z => by rw [z, e] at r; cases r
        omega
    | some x =>
      simp only
      by_cases hp : p k = true
      · rw [if_pos hp, List.mem_append, ih]
        constructor
        · rintro (⟨i, h, r⟩ | h)
          · exact ⟨i, by omega, r⟩
          · simp at h; subst h; exact ⟨k, by omega, e, hp⟩
        · rintro ⟨i, h, r, q⟩
          by_cases z : i = k
          · subst z; rw [e] at r; cases r; right; simp
          · left; exact ⟨i, by omega, r, q⟩
      · rw [if_neg hp, ih]
        constructor
        · rintro ⟨i, h, r⟩; exact ⟨i, by omega, r⟩
        · rintro ⟨i, h, r, q⟩
          refine ⟨i, ?_, r, q⟩
          have : i ≠ k := fun z => hp (z ▸ q)
          omega
theorem sel_mono {p q : Nat → Bool} {k m : Nat} (h : k ≤ m) (hp : ∀ i, i < k → p i = true → q i = true) : ∀ j ∈ sel js p k, j ∈ sel js q m := fun j hj => by
  obtain ⟨i, a, b, c⟩ := sel_mem.mp hj
  exact sel_mem.mpr ⟨i, by omega, b, hp i a c⟩
def allB : Nat → Bool := fun _ => true
/-- not together by those ahead -/
noncomputable def hB (js : List J) (k : Nat) : Bool := @decide (∃ j, js[k]? = some j ∧ ¬ Conn (sel js allB k) j.1 j.2.1) (Classical.propDecidable _)
theorem hB_t {k : Nat} : hB js k = true ↔ ∃ j, js[k]? = some j ∧ ¬ Conn (sel js allB k) j.1 j.2.1 := by unfold hB; exact @decide_eq_true_iff _ (Classical.propDecidable _)
theorem hB_at {k : Nat} {j : J} (e : js[k]? = some j) : hB js k = true ↔ ¬ Conn (sel js allB k) j.1 j.2.1 := by
  rw [hB_t]
  constructor
  · rintro ⟨j', e', h⟩; rw [e] at e'; cases e'; exact h
  · exact fun h => ⟨j, e, h⟩
theorem one_conn {p : Nat → Bool} {k i : Nat} {j : J} (e : js[i]? = some j) (hi : i < k) (hp : p i = true) : Conn (sel js p k) j.1 j.2.1 := ⟨j.2.2, .one (sel_mem.mpr ⟨i, hi, e, hp⟩)⟩
/-- those that hold put together what all do -/
theorem conn_held (k : Nat) {a b : Str} : Conn (sel js (hB js) k) a b ↔ Conn (sel js allB k) a b := by
  constructor
  · exact fun h => h.mono (sel_mono (Nat.le_refl _) fun _ _ _ => rfl)
  · induction k generalizing a b with
    | zero => exact fun h => h.mono fun j hj => by simp [sel] at hj
    | succ k ih =>
      intro h
      have mono : ∀ {x y}, Conn (sel js (hB js) k) x y → Conn (sel js (hB js) (k + 1)) x y := fun h => h.mono (sel_mono (Nat.le_succ _) fun _ _ q => q)
      cases e : js[k]? with
      | none => 
        have : sel js allB (k + 1) = sel js allB k := by simp [sel, e]
        rw [this] at h
        exact mono (ih h)
      | some j =>
        have es : sel js allB (k + 1) = sel js allB k ++ [(j.1, j.2.1, j.2.2)] := by simp [sel, e, allB]
        rw [es] at h
        have key : Conn (sel js (hB js) (k + 1)) j.1 j.2.1 := by
          cases hk : hB js k with
          | true => exact one_conn e (Nat.lt_succ_self _) hk
          | false =>
            have : Conn (sel js allB k) j.1 j.2.1 := Classical.byContradiction fun z => by
              have := (hB_at e).mpr z
              rw [hk] at this; cases this
            exact mono (ih this)
        rcases conn_snoc.mp h with h | ⟨h1, h2⟩ | ⟨h1, h2⟩
        · exact mono (ih h)
        · exact (mono (ih h1)).trans (key.trans (mono (ih h2)))
        · exact (mono (ih h1)).trans (key.symm.trans (mono (ih h2)))
/-! #### one left out -/
noncomputable def hBx (js : List J) (n : Nat) : Nat → Bool := fun i => hB js i && decide (i ≠ n)
def exB (n : Nat) : Nat → Bool := fun i => decide (i ≠ n)
variable {n : Nat} {jn : J}
/-- a joining that holds is needed for its names by those that hold -/
theorem held_apart (hn : js[n]? = some jn) (hh : hB js n = true) (k : Nat) : ¬ Conn (sel js (hBx js n) k) jn.1 jn.2.1 := by
  induction k with
  | zero => exact fun h => (hB_at hn).mp hh (h.mono fun j hj => by simp [sel] at hj)
  | succ k ih =>
    intro h
    cases e : js[k]? with
    | none => exact ih (by have : sel js (hBx js n) (k + 1) = sel js (hBx js n) k := by simp [sel, e]
                           rwa [this] at h)
    | some j =>
      cases hp : hBx js n k with
      | false => exact ih (by have : sel js (hBx js n) (k + 1) = sel js (hBx js n) k := by simp [sel, e, hp]
                              rwa [this] at h)
      | true =>
        have es : sel js (hBx js n) (k + 1) = sel js (hBx js n) k ++ [(j.1, j.2.1, j.2.2)] := by simp [sel, e, hp]
        have hk : hB js k = true ∧ k ≠ n := by simpa [hBx] using hp
        rcases Nat.lt_trichotomy k n with hl | hl | hl
        · exact (hB_at hn).mp hh (h.mono (sel_mono (by omega) fun _ _ _ => rfl))
        · exact hk.2 hl
        · rw [es] at h
          have up : ∀ {x y}, Conn (sel js (hBx js n) k) x y → Conn (sel js allB k) x y := fun h => h.mono (sel_mono (Nat.le_refl _) fun _ _ _ => rfl)
          have cn : Conn (sel js allB k) jn.1 jn.2.1 := one_conn hn hl rfl
          have no := (hB_at e).mp hk.1
          rcases conn_snoc.mp h with h | ⟨h1, h2⟩ | ⟨h1, h2⟩
          · exact ih h
          · exact no ((up h1).symm.trans (cn.trans (up h2).symm))
          · exact no ((up h2).trans (cn.symm.trans (up h1)))
/-- what hangs together by those that hold does so without one, or by its two ends -/
theorem held_split (hn : js[n]? = some jn) {k : Nat} {a b : Str} (h : Conn (sel js (hB js) k) a b) : Conn (sel js (hBx js n) k) a b ∨ (n < k ∧ ((Conn (sel js (hBx js n) k) a jn.1 ∧ Conn (sel js (hBx js n) k) jn.2.1 b) ∨ (Conn (sel js (hBx js n) k) a jn.2.1 ∧ Conn (sel js (hBx js n) k) jn.1 b))) := by
  by_cases hk : n < k
  · have : Conn (sel js (hBx js n) k ++ [(jn.1, jn.2.1, jn.2.2)]) a b := h.mono fun j hj => by
      obtain ⟨i, h1, h2, h3⟩ := sel_mem.mp hj
      by_cases z : i = n
      · subst z; rw [hn] at h2; cases h2; simp
      · exact List.mem_append_left _ (sel_mem.mpr ⟨i, h1, h2, by simp [hBx, h3, z]⟩)
    rcases conn_snoc.mp this with h | h | h
    · exact .inl h
    · exact .inr ⟨hk, .inl h⟩
    · exact .inr ⟨hk, .inr h⟩
  · exact .inl (h.mono (sel_mono (Nat.le_refl _) fun i hi q => by simp [hBx, q]; omega))
/-- whether a joining leads out of the class of an end by those that hold but one -/
def Cross (js : List J) (n : Nat) (a : Str) (i : Nat) : Prop := ∃ j, js[i]? = some j ∧ ¬ (Conn (sel js (hBx js n) js.length) a j.1 ↔ Conn (sel js (hBx js n) js.length) a j.2.1)
theorem cross_not (hn : js[n]? = some jn) {i : Nat} {a : Str} (hc : Cross js n a i) (hi : i ≠ n) : hB js i = false ∧ n < i := by
  obtain ⟨j, e, h⟩ := hc
  have hlt : i < js.length := (List.getElem?_eq_some_iff.mp e).1
  have nc : ¬ Conn (sel js (hBx js n) js.length) j.1 j.2.1 := fun z => h ⟨fun q => q.trans z, fun q => q.trans z.symm⟩
  have h1 : hB js i = false := by
    cases hb : hB js i with
    | false => rfl
    | true => exact absurd (one_conn e hlt (by simp [hBx, hb, hi])) nc
  refine ⟨h1, Classical.byContradiction fun z => ?_⟩
  have hc2 : Conn (sel js allB i) j.1 j.2.1 := Classical.byContradiction fun w => by
    have := (hB_at e).mpr w
    rw [h1] at this; cases this
  have := (conn_held i).mpr hc2
  exact nc (this.mono (sel_mono (by omega) fun m hm q => by simp [hBx, q]; omega))
/-- the ends of a joining that doesn't hold, by what is left -/
theorem not_held (hn : js[n]? = some jn) {i : Nat} {j : J} (e : js[i]? = some j) (hb : hB js i = false) : Conn (sel js (hBx js n) i) j.1 j.2.1 ∨ (n < i ∧ ((Conn (sel js (hBx js n) i) j.1 jn.1 ∧ Conn (sel js (hBx js n) i) jn.2.1 j.2.1) ∨ (Conn (sel js (hBx js n) i) j.1 jn.2.1 ∧ Conn (sel js (hBx js n) i) jn.1 j.2.1))) := by
  have hc : Conn (sel js allB i) j.1 j.2.1 := Classical.byContradiction fun w => by
    have := (hB_at e).mpr w
    rw [hb] at this; cases this
  exact held_split hn ((conn_held i).mpr hc)
/-- which hold where one that holds is left out: the others that hold, and the first that leads across -/
theorem held_without (hn : js[n]? = some jn) (hh : hB js n = true) {i : Nat} (hi : i ≠ n) {j : J} (e : js[i]? = some j) :
    (¬ Conn (sel js (exB n) i) j.1 j.2.1) ↔ (hB js i = true ∨ (Cross js n jn.1 i ∧ ∀ m, m < i → m ≠ n → ¬ Cross js n jn.1 m)) := by
  have hlt : i < js.length := (List.getElem?_eq_some_iff.mp e).1
  have sub : ∀ {k : Nat}, k ≤ i → ∀ {x y}, Conn (sel js (hBx js n) k) x y → Conn (sel js (exB n) i) x y := by
    intro k hk x y h
    exact h.mono (sel_mono hk fun m _ q => by simp [hBx] at q; simp [exB, q.2])
  have tot : ∀ {k : Nat}, k ≤ js.length → ∀ {x y}, Conn (sel js (hBx js n) k) x y → Conn (sel js (hBx js n) js.length) x y := by
    intro k hk x y h
    exact h.mono (sel_mono hk fun _ _ q => q)
  have apart := held_apart hn hh js.length
  constructor
  · intro hnc
    by_cases hb : hB js i = true
    · exact .inl hb
    · right
      have hb : hB js i = false := by simpa using hb
      rcases not_held hn e hb with h | ⟨hni, h⟩
      · exact absurd (sub (Nat.le_refl _) h) hnc
      · have hcr : Cross js n jn.1 i := by
          refine ⟨j, e, fun z => ?_⟩
          rcases h with ⟨h1, h2⟩ | ⟨h1, h2⟩
          · have := z.mp (tot (by omega) h1).symm
            exact apart (this.trans (tot (by omega) h2).symm)
          · have := z.mpr (tot (by omega) h2)
            exact apart (this.trans (tot (by omega) h1))
        refine ⟨hcr, fun m hm hmn hcm => ?_⟩
        obtain ⟨hbm, hnm⟩ := cross_not hn hcm hmn
        obtain ⟨jm, em, hx⟩ := hcm
        have hml : m < js.length := by omega
        have edge : Conn (sel js (exB n) i) jm.1 jm.2.1 := one_conn em hm (by simp [exB, hmn])
        have ends : Conn (sel js (exB n) i) jn.1 jn.2.1 := by
          rcases not_held hn em hbm with q | ⟨_, q⟩
          · have := tot (by omega) q
            exact absurd ⟨fun z => z.trans this, fun z => z.trans this.symm⟩ hx
          · rcases q with ⟨q1, q2⟩ | ⟨q1, q2⟩
            · exact (sub (by omega) q1).symm.trans (edge.trans (sub (by omega) q2).symm)
            · exact (sub (by omega) q2).trans (edge.symm.trans (sub (by omega) q1))
        rcases h with ⟨h1, h2⟩ | ⟨h1, h2⟩
        · exact hnc ((sub (Nat.le_refl _) h1).trans (ends.trans (sub (Nat.le_refl _) h2)))
        · exact hnc ((sub (Nat.le_refl _) h1).trans (ends.symm.trans (sub (Nat.le_refl _) h2)))
  · rintro (hb | ⟨hc, hfirst⟩) hcn
    · exact (hB_at e).mp hb (hcn.mono (sel_mono (Nat.le_refl _) fun _ _ _ => rfl))
    · obtain ⟨j', e', hx⟩ := hc
      rw [e] at e'; cases e'
      have closed : ∀ {x y}, Conn (sel js (exB n) i) x y → (Conn (sel js (hBx js n) js.length) jn.1 x ↔ Conn (sel js (hBx js n) js.length) jn.1 y) := by
        rintro x y ⟨o, r⟩
        induction r with
        | refl => exact Iff.rfl
        | fwd r m ih =>
          obtain ⟨k, hk, ek, hp⟩ := sel_mem.mp m
          have hkn : k ≠ n := by simpa [exB] using hp
          have := hfirst k hk hkn
          exact ih.trans (Classical.byContradiction fun z => this ⟨_, ek, z⟩)
        | bwd r m ih =>
          obtain ⟨k, hk, ek, hp⟩ := sel_mem.mp m
          have hkn : k ≠ n := by simpa [exB] using hp
          have := hfirst k hk hkn
          exact ih.trans (Classical.byContradiction fun z => this ⟨_, ek, fun w => z w.symm⟩)
      exact hx (closed hcn)
/-- one left out that doesn't hold changes nothing -/
theorem unheld_without (hn : js[n]? = some jn) (hh : hB js n = false) (i : Nat) {a b : Str} (hin : n < i ∨ i ≤ n) : Conn (sel js (exB n) i) a b ↔ Conn (sel js allB i) a b := by
  constructor
  · exact fun h => h.mono (sel_mono (Nat.le_refl _) fun _ _ _ => rfl)
  · intro h
    have hc : Conn (sel js allB n) jn.1 jn.2.1 := Classical.byContradiction fun w => by
      have := (hB_at hn).mpr w
      rw [hh] at this; cases this
    obtain ⟨o, r⟩ := h
    have edge : ∀ {x y : Str} {s : Int}, (x, y, s) ∈ sel js allB i → Conn (sel js (exB n) i) x y := fun {x y s} m => by
      obtain ⟨k, hk, ek, _⟩ := sel_mem.mp m
      by_cases z : k = n
      · subst z
        rw [hn] at ek
        cases ek
        exact hc.mono (sel_mono (by omega) fun m hm _ => by simp [exB]; omega)
      · exact one_conn ek hk (by simp [exB, z])
    induction r with
    | refl => exact .refl _
    | fwd _ m ih => exact ih.trans (edge m)
    | bwd _ m ih => exact ih.trans (edge m).symm
end
end VS

set_option maxRecDepth 100000
set_option maxHeartbeats 0
namespace VS
open PySem L2 SeqAt
/-! ### the state that draws -/
def kC : Key := Sum.inr ("cells" : Str)
def kT : Key := Sum.inr ("turn" : Str)
def st (c : List Int) (t : Int) : D := .dct .m [kC, kT] [.lst .m (c.map D.int), .int t]
theorem kCT : ¬ kC = kT := by decide
theorem kTC : ¬ kT = kC := by decide
theorem ix_turn (c : List Int) (t : Int) : ixD (st c t) (.str "turn") = some (.int t) := by
  show (lookD [kC, kT] [.lst .m (c.map D.int), .int t] kT) = _
  simp [lookD, kCT, kTC]
theorem ix_cells (c : List Int) (t : Int) : ixD (st c t) (.str "cells") = some (.lst .m (c.map D.int)) := by
  show (lookD [kC, kT] [.lst .m (c.map D.int), .int t] kC) = _
  simp [lookD, kCT, kTC]
theorem st_turn (c : List Int) (t x : Int) : stD (st c t) (.str "turn") (.int x) = some (st c x) := by
  have hz : 2 < sizeLine := sz_lt (by decide)
  show ((D.str "turn").key.bind fun k => if [kC, kT].length < sizeLine then some (putD [kC, kT] [.lst .m (c.map D.int), .int t] k (.int x)) else none) = _
  have hk : (D.str "turn").key = some kT := rfl
  rw [hk]
  have hi : idxK [kC, kT] kT = some 1 := by simp [idxK, kCT, kTC]
  simp only [Option.bind_some, List.length_cons, List.length_nil]
  rw [if_pos (show 0 + 1 + 1 < sizeLine from hz)]
  unfold putD
  rw [hi]; rfl
theorem kid_cells (c : List Int) (t : Int) : ∃ G, kidD (st c t) (.str "cells") = some (.lst .m (c.map D.int), G) ∧ ∀ c' : List Int, G (.lst .m (c'.map D.int)) = st c' t := by
  have hk : (D.str "cells").key = some kC := rfl
  have hi : idxK [kC, kT] kC = some 0 := by simp [idxK, kCT, kTC]
  refine ⟨fun y => .dct .m [kC, kT] ([D.lst .m (c.map D.int), .int t].set 0 y), ?_, fun c' => rfl⟩
  show ((D.str "cells").key.bind fun k => (idxK [kC, kT] k).bind fun j => ([D.lst .m (c.map D.int), .int t][j]?).map fun x => (x, fun y => D.dct .m [kC, kT] ([D.lst .m (c.map D.int), .int t].set j y))) = _
  rw [hk, Option.bind_some, hi]; rfl
@[simp] theorem nol_st (c : List Int) (t : Int) : (st c t).nol = true := by
  show nols [D.lst .m (c.map D.int), .int t] = true
  simp [nols_map (f := D.int) (fun _ => rfl)]
@[simp] theorem imm_st (c : List Int) (t : Int) : (st c t).imm = false := rfl
/-- a state that has drawn at most B times -/
structure StO (B : Int) (c : List Int) (t : Int) : Prop where
  ne : 0 < c.length
  le : c.length ≤ 64
  t0 : 0 ≤ t
  tB : t ≤ B
theorem StO.up {B B' : Int} {c : List Int} {t : Int} (h : StO B c t) (hb : B ≤ B') : StO B' c t := ⟨h.ne, h.le, h.t0, by have := h.tB; omega⟩
def TKE (m t1 : Int) (k : Nat) (ck : Int) (o5 o6 : Option D) (S : D) : Env := [some S, some (.int m), some (.int t1), some (.int k), some (.int ck), o5, o6]
theorem v_take {B : Int} {c : List Int} {t : Int} (h : StO B c t) (hB : B ≤ 1000000) {m : Int} (h0 : 0 < m) (h1 : m < 2 ^ 63) : ∃ r c', φ__law_take [st c t, .int m] = .ok (.int r) [st c' (t + 1)] ∧ 0 ≤ r ∧ r < m ∧ StO (B + 1) c' (t + 1) := by
  have ht := h.t0
  have hne := h.ne
  have hT := h.tB
  have hl : (0 : Int) < c.length := by have := h.ne; omega
  have hl2 : (c.length : Int) < 18446744073709551616 := by have := h.le; omega
  have e1 := ix_turn c t
  have e2 := st_turn c t (t + 1)
  have e3 := ix_cells c (t + 1)
  have hs0 : 0 ≤ (t + 1) % (c.length : Int) := Int.emod_nonneg _ (by omega)
  have hs1 : (t + 1) % (c.length : Int) < c.length := Int.emod_lt_of_pos _ hl
  obtain ⟨k, hk⟩ : ∃ k : Nat, (t + 1) % (c.length : Int) = k := ⟨((t + 1) % (c.length : Int)).toNat, by omega⟩
  have hkl : k < c.length := by omega
  have e4 : atI (c.map D.int) (k : Int) = some (.int c[k]) := by rw [atI_nat (by simpa using hkl)]; simp [hkl]
  obtain ⟨G, e5, e6⟩ := kid_cells c (t + 1)
  have hm64 : m < 18446744073709551616 := by omega
  have b1 : -18446744073709551616 < t + 1 ∧ t + 1 < 18446744073709551616 := by omega
  by_cases hc : (1000000000000000000 : Int) ≤ c[k]
  · -- digits
    have e7 : stD (.lst .m (c.map D.int)) (.int (k : Int)) (.int (c[k] / m)) = some (.lst .m ((c.set k (c[k] / m)).map D.int)) := by
      have : ixN (c.map D.int).length (k : Int) = some k := by unfold ixN; simp; omega
      unfold stD
      simp only [this, Option.map_some, List.map_set]
    have e8 := e6 (c.set k (c[k] / m))
    rw [List.map_set] at e8
    refine ⟨c[k] % m, c.set k (c[k] / m), ?_, Int.emod_nonneg _ (by omega), Int.emod_lt_of_pos _ h0, ⟨by simpa using h.ne, by simpa using h.le, by omega, by omega⟩⟩
    refine fn_rt ⟨rfl, by decide⟩ rfl (?_ : b__law_take _ = .rt _ (TKE m (t + 1) k c[k] (some (.int (c[k] % m))) none (st (c.set k (c[k] / m)) (t + 1)))) rfl
    generalize hS0 : st c t = S0 at *
    generalize hS1 : st c (t + 1) = S1 at *
    generalize hS2 : st (c.set k (c[k] / m)) (t + 1) = S2 at *
    generalize c[k] = ck at *
    unfold b__law_take
    refine seq_nx (env1 := [some S0, some (.int m), some (.int (t + 1)), none, none, none, none]) (by simp [fnEnv, e1]) ?_
    refine seq_nx (env1 := [some S1, some (.int m), some (.int (t + 1)), none, none, none, none]) (by simp [lVar, e2]) ?_
    refine seq_nx (env1 := [some S1, some (.int m), some (.int (t + 1)), some (.int k), none, none, none]) (by simp [e3, hne, hl2, hk]) ?_
    refine seq_nx (env1 := TKE m (t + 1) k ck none none S1) (by unfold TKE; simp [e3, e4]) ?_
    rw [e_seq]
    have : (sIf (cTt (c2 pGeG (cVar 4) (c2 pPow (cK (.int 10)) (cK (.int 18))))) (sSeq (sAsg (cL pDivmod (cCons (cVar 4) (cCons (cVar 1) cNil))) (gTupD 2 (gConsD (gSubD 0 (lIdx (lVar 0) (cK (.str "cells"))) (cVar 3)) (gConsD (gSet 5) gNilD)))) (sRet (cGet 5))) sNil) (TKE m (t + 1) k ck none none S1) = .rt (.int (ck % m)) (TKE m (t + 1) k ck (some (.int (ck % m))) none S2) := by
      unfold TKE; simp [hc, h0, hm64, lIdx, lVar, e5, e7, e8]
    rw [this]; rfl
  · have hb : c[k] < 1000000000000000000 := by omega
    let x := (c[k] % 2147483629 + (t + 1) * (t + 1) * 7919 + 11) * 48271 % 2147483647
    have hx0 : 0 ≤ x := Int.emod_nonneg _ (by decide)
    have hx1 : x < 2147483647 := Int.emod_lt_of_pos _ (by decide)
    have b2 : -18446744073709551616 < x ∧ x < 18446744073709551616 := by omega
    refine ⟨(x * x % 2147483587 + (t + 1) * 104729) * 39373 % 2147483629 / 64 % m, c, ?_, Int.emod_nonneg _ (by omega), Int.emod_lt_of_pos _ h0, ⟨h.ne, h.le, by omega, by omega⟩⟩
    refine fn_rt ⟨rfl, by decide⟩ rfl (?_ : b__law_take _ = .rt _ (TKE m (t + 1) k c[k] none (some (.int (x * x % 2147483587))) (st c (t + 1)))) rfl
    have hx : x = (c[k] % 2147483629 + (t + 1) * (t + 1) * 7919 + 11) * 48271 % 2147483647 := rfl
    generalize hS0 : st c t = S0 at *
    generalize hS1 : st c (t + 1) = S1 at *
    generalize x = y at *
    generalize c[k] = ck at *
    unfold b__law_take
    refine seq_nx (env1 := [some S0, some (.int m), some (.int (t + 1)), none, none, none, none]) (by simp [fnEnv, e1]) ?_
    refine seq_nx (env1 := [some S1, some (.int m), some (.int (t + 1)), none, none, none, none]) (by simp [lVar, e2]) ?_
    refine seq_nx (env1 := [some S1, some (.int m), some (.int (t + 1)), some (.int k), none, none, none]) (by simp [e3, hne, hl2, hk]) ?_
    refine seq_nx (env1 := TKE m (t + 1) k ck none none S1) (by unfold TKE; simp [e3, e4]) ?_
    refine seq_nx (env1 := TKE m (t + 1) k ck none none S1) (by unfold TKE; simp [hc]) ?_
    refine seq_nx (env1 := TKE m (t + 1) k ck none (some (.int y)) S1) (by unfold TKE; simp [b1, hx]) ?_
    refine seq_nx (env1 := TKE m (t + 1) k ck none (some (.int (y * y % 2147483587))) S1) (by unfold TKE; simp [b2]) ?_
    unfold TKE; simp [h0, hm64]
end VS

set_option maxRecDepth 100000
set_option maxHeartbeats 0
namespace VS
open PySem L2 SeqAt
def lit16 : Str := "b aa zebra c quartzes ab m knows d mm likes z a ba abcdefgh y"
def nms16 : List Str := Txt.split lit16 " "
def nameOk (n : Str) : Bool := decide (1 ≤ n.length) && decide (n.length ≤ 8) && n.cps.toList.all fun c => decide (c ∈ ("abcdefghijklmnopqrstuvwxyz" : Str).cps.toList)
theorem nms16_facts : nms16.length = 16 ∧ nms16.Nodup ∧ (nms16.all nameOk) = true := by decide +kernel
theorem v_split16 : pSplit (.str "b aa zebra c quartzes ab m knows d mm likes z a ba abcdefgh y") (.str " ") = some (.lst .m (nms16.map D.str)) :=
  if_pos (e := none) (c := ((" " : Str).length == 0) = false ∧ lit16.length + 2 ≤ sizeLine) ⟨by decide +kernel, sz_ok (by decide +kernel)⟩
structure NB (ns : List Str) : Prop where
  nd : ns.Nodup
  len : ns.length ≤ 16
  ok : ∀ n ∈ ns, nameOk n = true
  lit : ∀ n ∈ ns, n ∈ nms16
theorem v_names {B : Int} {c : List Int} {t : Int} (h : StO B c t) (hB : B ≤ 900000) : ∃ ns c' t', φ__law_names [st c t] = .ok (.lst .m (ns.map D.str)) [st c' t'] ∧ NB ns ∧ StO (B + 4) c' t' := by
  obtain ⟨f1, f2, f3⟩ := nms16_facts
  have hs := v_split16
  generalize hws : nms16 = ws at f1 f2 f3 hs
  have ok : ∀ (k n : Nat), NB ((ws.drop k ++ ws.take k).take n) := fun k n => by
    have p : (ws.drop k ++ ws.take k).Perm ws := by
      have := List.perm_append_comm (l₁ := ws.drop k) (l₂ := ws.take k)
      rwa [List.take_append_drop] at this
    refine ⟨(p.nodup_iff.mpr f2).sublist (List.take_sublist _ _), ?_, fun n hn => List.all_eq_true.mp f3 n (p.mem_iff.mp ((List.take_sublist _ _).subset hn)), fun n hn => by rw [hws]; exact p.mem_iff.mp ((List.take_sublist _ _).subset hn)⟩
    have := p.length_eq
    simp only [List.length_take]; omega
  obtain ⟨r5, c1, e5, p5, q5, s1⟩ := v_take h (by omega) (m := 5) (by decide) (by decide)
  obtain ⟨r3, c2', e3, p3, q3, s2⟩ := v_take s1 (by omega) (m := 3) (by decide) (by decide)
  obtain ⟨r8, c3, e8, p8, q8, s3⟩ := v_take s2 (by omega) (m := 8) (by decide) (by decide)
  obtain ⟨r16, c4, e16, p16, q16, s4⟩ := v_take s3 (by omega) (m := 16) (by decide) (by decide)
  obtain ⟨m, hm, hm0⟩ : ∃ m : Int, atI [D.int 4, .int 5, .int 6, .int 7, .int 8, .int 6, .int (10 + r5), .int r3] r8 = some (.int m) ∧ 0 ≤ m := by
    have : r8 = 0 ∨ r8 = 1 ∨ r8 = 2 ∨ r8 = 3 ∨ r8 = 4 ∨ r8 = 5 ∨ r8 = 6 ∨ r8 = 7 := by omega
    rcases this with z | z | z | z | z | z | z | z <;> subst z
    · exact ⟨4, rfl, by decide⟩
    · exact ⟨5, rfl, by decide⟩
    · exact ⟨6, rfl, by decide⟩
    · exact ⟨7, rfl, by decide⟩
    · exact ⟨8, rfl, by decide⟩
    · exact ⟨6, rfl, by decide⟩
    · exact ⟨10 + r5, rfl, by omega⟩
    · exact ⟨r3, rfl, by omega⟩
  have IM : ∀ i : Nat, imms (List.drop i (ws.map D.str)) = true := fun i => imms_sub (List.drop_sublist _ _) (imms_map (fun _ => rfl) _)
  have IM2 : ∀ i : Nat, imms (List.take i (ws.map D.str)) = true := fun i => imms_sub (List.take_sublist _ _) (imms_map (fun _ => rfl) _)
  have hl : ws.length - r16.toNat + min r16.toNat ws.length ≤ sizeLine := sz_ok (by omega)
  have z8 : 8 ≤ sizeLine := sz_ok (by decide)
  have w16 : (ws.length : Int) = 16 := by omega
  refine ⟨(ws.drop r16.toNat ++ ws.take r16.toNat).take m.toNat, c4, t + 1 + 1 + 1 + 1, ?_, ok _ _, s4.up (by omega)⟩
  generalize hS0 : st c t = S0 at *
  generalize hS1 : st c1 (t + 1) = S1 at *
  generalize hS2 : st c2' (t + 1 + 1) = S2 at *
  generalize hS3 : st c3 (t + 1 + 1 + 1) = S3 at *
  generalize hS4 : st c4 (t + 1 + 1 + 1 + 1) = S4 at *
  have n1 : S1.nol = true := by rw [← hS1]; simp
  have n2 : S2.nol = true := by rw [← hS2]; simp
  have n3 : S3.nol = true := by rw [← hS3]; simp
  have n4 : S4.nol = true := by rw [← hS4]; simp
  have i1 : S0.imm = false := by rw [← hS0]; simp
  have i2 : S1.imm = false := by rw [← hS1]; simp
  have i3 : S2.imm = false := by rw [← hS2]; simp
  have i4 : S3.imm = false := by rw [← hS3]; simp
  unfold φ__law_names fnRun b__law_names
  simp [fnEnv, fnEnd, outsOf, hs, e5, e3, e8, e16, hm, z8, w16, n1, n2, n3, n4, i1, i2, i3, i4, cut_take p16, cut_drop p16, hl, cut_take hm0, IM, IM2]
end VS

set_option maxRecDepth 100000
set_option maxHeartbeats 0
namespace VS
open PySem L2 SeqAt
/-! ### joinings -/
abbrev Jn := Str × Str × Int
def jt (j : Jn) : D := .tup [.str j.1, .str j.2.1, .int j.2.2]
def pt (p : Int × Int) : D := .tup [.int p.1, .int p.2]
@[simp] theorem imm_jt (j : Jn) : (jt j).imm = true := rfl
@[simp] theorem imm_pt (j : Int × Int) : (pt j).imm = true := rfl
@[simp] theorem lend_jt (j : Jn) : (jt j).lend = jt j := rfl
@[simp] theorem lend_pt (j : Int × Int) : (pt j).lend = pt j := rfl
@[simp] theorem imms_jts : ∀ js : List Jn, imms (js.map jt) = true
  | [] => rfl
  | j :: js => by simp [imms_jts js]
@[simp] theorem imms_pts : ∀ js : List (Int × Int), imms (js.map pt) = true
  | [] => rfl
  | j :: js => by simp [imms_pts js]
@[simp] theorem lends_jts : ∀ js : List Jn, lends (js.map jt) = js.map jt
  | [] => rfl
  | j :: js => by simp [lends_jts js]
@[simp] theorem lends_pts : ∀ js : List (Int × Int), lends (js.map pt) = js.map pt
  | [] => rfl
  | j :: js => by simp [lends_pts js]
@[simp] theorem lends_strs : ∀ js : List Str, lends (js.map D.str) = js.map D.str
  | [] => rfl
  | j :: js => by simp [lends_strs js]
@[simp] theorem nol_jt (j : Jn) : (jt j).nol = true := rfl
@[simp] theorem nol_pt (j : Int × Int) : (pt j).nol = true := rfl
@[simp] theorem nols_jts : ∀ js : List Jn, nols (js.map jt) = true
  | [] => rfl
  | j :: js => by simp [nols_jts js]
@[simp] theorem nols_pts : ∀ js : List (Int × Int), nols (js.map pt) = true
  | [] => rfl
  | j :: js => by simp [nols_pts js]
@[simp] theorem nols_strs : ∀ js : List Str, nols (js.map D.str) = true
  | [] => rfl
  | j :: js => by simp [nols_strs js]
@[simp] theorem nols_ints : ∀ js : List Int, nols (js.map D.int) = true
  | [] => rfl
  | j :: js => by simp [nols_ints js]
/-- joinings as a list that is lent, or as a tuple -/
inductive Hold {α : Type} (f : α → D) (js : List α) : D → Prop
  | l : Hold f js (.lst .l (js.map f))
  | t : Hold f js (.tup (js.map f))
theorem eqOks_jts (n : Nat) : ∀ js : List Jn, eqOks (n + 1) (js.map jt) = true
  | [] => rfl
  | j :: js => by
    have := eqOks_jts n js
    simp only [List.map_cons, eqOks, this, Bool.and_true]; rfl
theorem ne_jts (g : Fl) (js : List Jn) : pNe (.lst g (js.map jt)) (.lst .m []) = some (.bl (!js.isEmpty)) := by
  unfold pNe
  have h : eqOk 40 (.lst g (js.map jt)) = true := eqOks_jts 38 js
  have h2 : eqOk 40 (.lst .m []) = true := rfl
  rw [h, h2]
  cases js <;> rfl
structure JOk (ns : List Str) (js : List Jn) : Prop where
  one : ∀ j ∈ js, j.1 ∈ ns
  other : ∀ j ∈ js, j.2.1 ∈ ns
  lo : ∀ j ∈ js, -1000000000000 ≤ j.2.2
  hi : ∀ j ∈ js, j.2.2 ≤ 1000000000000
theorem JOk.snoc {ns : List Str} {js : List Jn} (h : JOk ns js) {x y : Str} {z : Int} (hx : x ∈ ns) (hy : y ∈ ns) (h1 : -1000000000000 ≤ z) (h2 : z ≤ 1000000000000) : JOk ns (js ++ [(x, y, z)]) := by
  have go : ∀ {P : Jn → Prop}, (∀ j ∈ js, P j) → P (x, y, z) → ∀ j ∈ js ++ [(x, y, z)], P j := fun h1 h2 j hj => by
    rcases List.mem_append.mp hj with q | q
    · exact h1 j q
    · simp at q; subst q; exact h2
  exact ⟨go h.one hx, go h.other hy, go h.lo h1, go h.hi h2⟩
theorem at_name {ns : List Str} {r : Int} (h0 : 0 ≤ r) (h1 : r < ns.length) : ∃ s, s ∈ ns ∧ atI (ns.map D.str) r = some (.str s) := by
  obtain ⟨x, m, _, e⟩ := atI_map (f := D.str) h0 h1
  exact ⟨x, m, e⟩
theorem at_jt {js : List Jn} {r : Int} (h0 : 0 ≤ r) (h1 : r < js.length) : ∃ j, j ∈ js ∧ atI (js.map jt) r = some (jt j) := by
  obtain ⟨x, m, _, e⟩ := atI_map (f := jt) h0 h1
  exact ⟨x, m, e⟩
theorem cut2 (x y z : D) : cutD [x, y, z] none (some 2) = [x, y] := (rfl)
theorem pairs_Y {P : Int → Prop} : ∀ {ns : List Str} {ys : List D}, Paired (fun d y => ∃ (s : Str) (n : Int), d = .str s ∧ y = .tup [.str s, .int n] ∧ P n) (ns.map D.str) ys →
    imms ys = true ∧ ∃ ps, pairsD ys = some ps ∧ (∀ p ∈ ps, ∃ n : Int, p.2 = .int n ∧ P n) ∧ ∀ s ∈ ns, ∃ p ∈ ps, p.1 = Sum.inr s
  | [], ys, h => by cases h; exact ⟨rfl, [], rfl, (fun _ z => nomatch z), (fun _ z => nomatch z)⟩
  | x :: ns, ys, h => by
    rw [List.map_cons] at h
    cases h with
    | cons h1 h2 =>
      obtain ⟨s, n, e1, rfl, hp⟩ := h1
      cases e1
      obtain ⟨i1, ps, i2, i3, i4⟩ := pairs_Y h2
      refine ⟨by simp [i1], (Sum.inr x, .int n) :: ps, by simp [pairsD, D.key, i2], fun p hp' => ?_, fun s hs => ?_⟩
      · rcases List.mem_cons.mp hp' with z | z
        · subst z; exact ⟨n, rfl, hp⟩
        · exact i3 p z
      · rcases List.mem_cons.mp hs with z | z
        · subst z; exact ⟨_, List.mem_cons_self, rfl⟩
        · obtain ⟨p, hp, e⟩ := i4 s z
          exact ⟨p, List.mem_cons_of_mem _ hp, e⟩
end VS

set_option maxRecDepth 100000
set_option maxHeartbeats 0
namespace VS
open PySem L2 SeqAt
section
variable {ns : List Str} {sp : List Int}
/-- the slots while joinings are drawn -/
def JB (S : D) (ns : List Str) (sp : List Int) (js : List Jn) (o6 o7 o8 o9 o10 o11 o12 : Option D) : Env := [some S, some (.lst .l (ns.map D.str)), some (.lst .m (sp.map D.int)), none, none, some (.lst .m (js.map jt)), o6, o7, o8, o9, o10, o11, o12]
theorem st_lastj (a : List Jn) (q : Jn) (x : Jn) : stD (.lst .m ((a ++ [q]).map jt)) (.int (-1)) (jt x) = some (.lst .m ((a ++ [x]).map jt)) := by
  unfold stD
  have h : ixN ((a ++ [q]).map jt).length (-1) = some a.length := by unfold ixN; simp; omega
  simp only [h, Option.map_some]
  congr 2
  simp
def JBM (S : D) (ns : List Str) (sp : List Int) (M : List D) (o6 o7 o8 o9 o10 o11 o12 : Option D) : Env := [some S, some (.lst .l (ns.map D.str)), some (.lst .m (sp.map D.int)), none, none, some (.lst .m M), o6, o7, o8, o9, o10, o11, o12]
theorem st_lastj' (a : List Jn) (q : Jn) (x : Jn) : stD (.lst .m (a.map jt ++ [jt q])) (.int (-1)) (jt x) = some (.lst .m (a.map jt ++ [jt x])) := by
  simpa using st_lastj a q x
theorem at_int {sp : List Int} {r : Int} (h0 : 0 ≤ r) (h1 : r < sp.length) : ∃ x, x ∈ sp ∧ atI (sp.map D.int) r = some (.int x) := by
  obtain ⟨x, m, _, e⟩ := atI_map (f := D.int) h0 h1
  exact ⟨x, m, e⟩
theorem v_join_step {B : Int} {c : List Int} {t : Int} (h : StO B c t) (hB : B ≤ 900000) (hpos : 0 < ns.length) (hl : ns.length ≤ 40) (hsl : sp.length = ns.length) (hsp : ∀ x ∈ sp, -450000000189 ≤ x ∧ x ≤ 450000000189) {js : List Jn} (hj : JOk ns js) (hjl : js.length ≤ 200) (o6 o7 o8 o9 o10 o11 o12 : Option D) :
    ∃ js' c' t' p7 p8 p9 p10 p11 p12, l__law_joinings_1 (JB (st c t) ns sp js o6 o7 o8 o9 o10 o11 o12) = .nx (JB (st c' t') ns sp js' o6 p7 p8 p9 p10 p11 p12) ∧ JOk ns js' ∧ js'.length = js.length + 1 ∧ StO (B + 7) c' t' := by
  have hl0 : (0 : Int) < ns.length := by omega
  obtain ⟨rk, ka, e1, k0, k1, s1⟩ := v_take h (by omega) (m := ns.length) hl0 (by omega)
  obtain ⟨rj, kb, e2, j0, j1, s2⟩ := v_take s1 (by omega) (m := ns.length) hl0 (by omega)
  obtain ⟨r3, kc, e3, _, _, s3⟩ := v_take s2 (by omega) (m := 3) (by decide) (by decide)
  obtain ⟨x, mx, gx⟩ := at_name k0 k1
  obtain ⟨y, my, gy⟩ := at_name j0 j1
  obtain ⟨u, mu, gu⟩ := at_int (sp := sp) k0 (by omega)
  obtain ⟨v, mv, gv⟩ := at_int (sp := sp) j0 (by omega)
  have bu := hsp u mu
  have bv := hsp v mv
  have hz : js.length < sizeLine := sz_lt (by omega)
  -- the step
  obtain ⟨z, kd, t4, z1, z2, s4, e4⟩ : ∃ z kd t4, -1000000000000 ≤ z ∧ z ≤ 1000000000000 ∧ StO (B + 4) kd t4 ∧ (sIf (cTt (c2 pEq (cCall φ__law_take (aOw (cMv 0) (some 0) (aRo (cK (.int 3)) aNil))) (cK (.int 0)))) (sAsg (c2 pSub (cCall φ__law_take (aOw (cMv 0) (some 0) (aRo (cK (.int 9)) aNil))) (cK (.int 4))) (gSet 7)) sNil) (JB (st kb (t + 1 + 1)) ns sp js o6 (some (.int (v - u))) o8 (some (.int rk)) (some (.int rj)) o11 o12) = .nx (JB (st kd t4) ns sp js o6 (some (.int z)) o8 (some (.int rk)) (some (.int rj)) o11 o12) := by
    by_cases hr : r3 = 0
    · obtain ⟨r9, kd, e9, a0, a1, s4⟩ := v_take s3 (by omega) (m := 9) (by decide) (by decide)
      refine ⟨r9 - 4, kd, _, by omega, by omega, s4.up (by omega), ?_⟩
      have q1 := imm_st kb (t + 1 + 1)
      have q2 := imm_st kc (t + 1 + 1 + 1)
      have q3 := nol_st kc (t + 1 + 1 + 1)
      have q4 := nol_st kd (t + 1 + 1 + 1 + 1)
      generalize st kb (t + 1 + 1) = A at *
      generalize st kc (t + 1 + 1 + 1) = A1 at *
      generalize st kd (t + 1 + 1 + 1 + 1) = A2 at *
      unfold JB; simp [e3, hr, e9, q1, q2, q3, q4]
    · refine ⟨v - u, kc, _, by omega, by omega, s3.up (by omega), ?_⟩
      have q1 := imm_st kb (t + 1 + 1)
      have q3 := nol_st kc (t + 1 + 1 + 1)
      generalize st kb (t + 1 + 1) = A at *
      generalize st kc (t + 1 + 1 + 1) = A1 at *
      unfold JB; simp [e3, hr, q1, q3]
  obtain ⟨r12, ke, e5, _, _, s5⟩ := v_take s4 (by omega) (m := 12) (by decide) (by decide)
  have hj1 : JOk ns (js ++ [(x, y, z)]) := hj.snoc mx my z1 z2
  have hl1 : (0 : Int) < (js ++ [(x, y, z)]).length := by simp
  have hl2 : ((js ++ [(x, y, z)]).length : Int) < 2 ^ 63 := by simp; omega
  -- now and then another's, or one turned about
  have hL : ((js ++ [(x, y, z)]).map jt) = js.map jt ++ [jt (x, y, z)] := by simp
  have lm : (js.map jt ++ [jt (x, y, z)]).length = js.length + 1 := by simp
  obtain ⟨q, kf, t6, p7, p11, p12, hjq, s6, e6⟩ : ∃ (q : Jn) (kf : List Int) (t6 : Int) (p7 p11 p12 : Option D), JOk ns (js ++ [q]) ∧ StO (B + 7) kf t6 ∧ (sSeq (sIf (cTt (c2 pEq (cVar 8) (cK (.int 0)))) (sAsg (cImm (cIdx (cVar 5) (cCall φ__law_take (aOw (cMv 0) (some 0) (aRo (cL pLen (cCons (cVar 5) cNil)) aNil))))) (gSubD 5 (lVar 5) (c1 pNeg (cK (.int 1))))) sNil) (sIf (cTt (c2 pEq (cVar 8) (cK (.int 1)))) (sSeq (sAsg (cImm (cIdx (cVar 5) (cCall φ__law_take (aOw (cMv 0) (some 0) (aRo (cL pLen (cCons (cVar 5) cNil)) aNil))))) (gTupD 3 (gConsD (gSet 11) (gConsD (gSet 12) (gConsD (gSet 7) gNilD))))) (sAsg (cTup (cCons (cGet 12) (cCons (cGet 11) (cCons (c1 pNeg (cVar 7)) cNil)))) (gSubD 5 (lVar 5) (c1 pNeg (cK (.int 1)))))) sNil)) (JBM (st ke (t4 + 1)) ns sp (js.map jt ++ [jt (x, y, z)]) o6 (some (.int z)) (some (.int r12)) (some (.int rk)) (some (.int rj)) o11 o12) = .nx (JBM (st kf t6) ns sp (js.map jt ++ [jt q]) o6 p7 (some (.int r12)) (some (.int rk)) (some (.int rj)) p11 p12) := by
    have rep : ∀ w ∈ js ++ [(x, y, z)], JOk ns (js ++ [w]) := fun w hw => hj.snoc (hj1.one w hw) (hj1.other w hw) (hj1.lo w hw) (hj1.hi w hw)
    obtain ⟨rr, kf, e6, a0, a1, s6⟩ := v_take s5 (by omega) (m := (js.length : Int) + 1) (by omega) (by omega)
    obtain ⟨w, hw, gw⟩ := at_jt (js := js ++ [(x, y, z)]) a0 (by simpa using a1)
    rw [hL] at gw
    have q1 := imm_st ke (t4 + 1)
    have q2 := nol_st kf (t4 + 1 + 1)
    by_cases h0 : r12 = 0
    · refine ⟨w, kf, _, some (.int z), o11, o12, rep w hw, s6.up (by omega), ?_⟩
      have sl := st_lastj' js (x, y, z) w
      have iw := imm_jt w
      generalize st ke (t4 + 1) = A at *
      generalize st kf (t4 + 1 + 1) = A1 at *
      generalize hM1 : js.map jt ++ [jt (x, y, z)] = M1 at *
      generalize hM2 : js.map jt ++ [jt w] = M2 at *
      generalize jt w = W at *
      unfold JBM; simp [h0, lm, e6, gw, sl, q1, q2, iw, lVar]
    · by_cases h1 : r12 = 1
      · have hwt : JOk ns (js ++ [(w.2.1, w.1, -w.2.2)]) := hj.snoc (hj1.other w hw) (hj1.one w hw) (by have := hj1.hi w hw; omega) (by have := hj1.lo w hw; omega)
        refine ⟨(w.2.1, w.1, -w.2.2), kf, _, some (.int w.2.2), some (.str w.1), some (.str w.2.1), hwt, s6.up (by omega), ?_⟩
        have sl := st_lastj' js (x, y, z) (w.2.1, w.1, -w.2.2)
        have jw : jt w = .tup [.str w.1, .str w.2.1, .int w.2.2] := rfl
        have jw2 : jt (w.2.1, w.1, -w.2.2) = .tup [.str w.2.1, .str w.1, .int (-w.2.2)] := rfl
        rw [jw] at gw
        have bz : -18446744073709551616 < w.2.2 ∧ w.2.2 < 18446744073709551616 := by have := hj1.hi w hw; have := hj1.lo w hw; omega
        generalize st ke (t4 + 1) = A at *
        generalize st kf (t4 + 1 + 1) = A1 at *
        generalize hM1 : js.map jt ++ [jt (x, y, z)] = M1 at *
        generalize hM2 : js.map jt ++ [jt (w.2.1, w.1, -w.2.2)] = M2 at *
        rw [jw2] at sl
        unfold JBM; simp [h1, lm, e6, gw, sl, q1, q2, lVar, bz]
      · refine ⟨(x, y, z), ke, _, some (.int z), o11, o12, hj1, s5.up (by omega), ?_⟩
        unfold JBM; simp [h0, h1]
  refine ⟨js ++ [q], kf, t6, p7, some (.int r12), some (.int rk), some (.int rj), p11, p12, ?_, hjq, by simp, s6⟩
  have hq : JB (st kf t6) ns sp (js ++ [q]) o6 p7 (some (.int r12)) (some (.int rk)) (some (.int rj)) p11 p12 = JBM (st kf t6) ns sp (js.map jt ++ [jt q]) o6 p7 (some (.int r12)) (some (.int rk)) (some (.int rj)) p11 p12 := by unfold JB JBM; simp
  rw [hq]
  have q0 := imm_st c t
  have q1 := imm_st ka (t + 1)
  have q2 := nol_st ka (t + 1)
  have q3 := nol_st kb (t + 1 + 1)
  have q4 := imm_st kd t4
  have q5 := nol_st ke (t4 + 1)
  unfold l__law_joinings_1
  generalize st c t = A at *
  generalize st ka (t + 1) = A1 at *
  generalize st kb (t + 1 + 1) = A2 at *
  generalize st kd t4 = A4 at *
  generalize st ke (t4 + 1) = A5 at *
  refine seq_nx (env1 := JB A2 ns sp js o6 o7 o8 (some (.int rk)) (some (.int rj)) o11 o12) ?_ ?_
  · unfold JB; simp [e1, e2, q0, q1, q2, q3]
  refine seq_nx (env1 := JB A2 ns sp js o6 (some (.int (v - u))) o8 (some (.int rk)) (some (.int rj)) o11 o12) ?_ ?_
  · unfold JB; simp [gu, gv]
  refine seq_nx e4 ?_
  refine seq_nx (env1 := JBM A4 ns sp (js.map jt ++ [jt (x, y, z)]) o6 (some (.int z)) o8 (some (.int rk)) (some (.int rj)) o11 o12) ?_ ?_
  · have em : jt (x, y, z) = .tup [.str x, .str y, .int z] := rfl
    unfold JB JBM; rw [em]; simp [gx, gy, hz, lVar]
  refine seq_nx (env1 := JBM A5 ns sp (js.map jt ++ [jt (x, y, z)]) o6 (some (.int z)) (some (.int r12)) (some (.int rk)) (some (.int rj)) o11 o12) ?_ e6
  unfold JBM; simp [e5, q4, q5]
end
end VS

set_option maxRecDepth 100000
set_option maxHeartbeats 0
namespace VS
open PySem L2 SeqAt
def SPE (S : D) (ns : List Str) (o2 : Option D) (o3 : Option D) (o4 : Option D) : Env := [some S, some (.lst .l (ns.map D.str)), o2, o3, o4, none, none, none, none, none, none, none, none]
theorem lc_one {vs : List Nat} {g : D → Env → Option Env} {ce : CE} {d : D} {ds : List D} {env env1 env2 : Env} {y : D} {r : List D × Env} (h1 : g d env = some env1) (h2 : env1.length = env.length) (h3 : ce env1 = .ok y env2) (h4 : lcRun vs g cYes ce ds (wipeE env2 vs) = some r) : lcRun vs g cYes ce (d :: ds) env = some (y :: r.1, r.2) := by
  unfold lcRun; simp [h1, h2, h3, h4]
theorem spots_go (ns : List Str) : ∀ (ws : List Str) {B : Int} {c : List Int} {t : Int}, StO B c t → B + ws.length ≤ 900000 → ∃ (sp : List Int) (c' : List Int) (t' : Int), lcRun [3] (gSet 3) cYes (c2 pSub (cCall φ__law_take (aOw (cMv 0) (some 0) (aRo (cK (.int 19)) aNil))) (cK (.int 9))) (ws.map D.str) (SPE (st c t) ns none none none) = some (sp.map D.int, SPE (st c' t') ns none none none) ∧ sp.length = ws.length ∧ (∀ x ∈ sp, -9 ≤ x ∧ x ≤ 9) ∧ StO (B + ws.length) c' t'
  | [], B, c, t, h, _ => ⟨[], c, t, rfl, rfl, (fun _ z => nomatch z), by simpa using h⟩
  | w :: ws, B, c, t, h, hB => by
    simp only [List.length_cons, Int.natCast_add] at hB
    obtain ⟨r, c1, e1, p0, p1, s1⟩ := v_take h (by omega) (m := 19) (by decide) (by decide)
    obtain ⟨sp, c', t', e2, l2, b2, s2⟩ := spots_go ns ws s1 (by omega)
    have q1 := imm_st c t
    have q2 := nol_st c1 (t + 1)
    refine ⟨(r - 9) :: sp, c', t', ?_, by simp [l2], fun x hx => ?_, by simpa [Int.add_assoc, Int.add_comm 1] using s2⟩
    · rw [List.map_cons]
      generalize st c t = A at *
      generalize st c1 (t + 1) = A1 at *
      have hc : (c2 pSub (cCall φ__law_take (aOw (cMv 0) (some 0) (aRo (cK (.int 19)) aNil))) (cK (.int 9))) (SPE A ns none (some (.str w)) none) = .ok (.int (r - 9)) (SPE A1 ns none (some (.str w)) none) := by
        unfold SPE; simp [e1, q1, q2]
      exact lc_one rfl rfl hc e2
    · rcases List.mem_cons.mp hx with z | z
      · subst z; omega
      · exact b2 x z
theorem v_joinings {B : Int} {c : List Int} {t : Int} (h : StO B c t) (hB : B ≤ 800000) {ns : List Str} (hn : ns.length ≤ 16) : ∃ js c' t', φ__law_joinings [st c t, .lst .l (ns.map D.str)] = .ok (.lst .m (js.map jt)) [st c' t'] ∧ JOk ns js ∧ js.length ≤ 32 ∧ StO (B + 300) c' t' := by
  obtain ⟨sp, c1, t1, e1, l1, b1, s1⟩ := spots_go ns ns h (by omega)
  obtain ⟨r6, c2', e6, p6, q6, s2⟩ := v_take s1 (by omega) (m := 6) (by decide) (by decide)
  obtain ⟨sp2, l2, b2, e2⟩ : ∃ sp2 : List Int, sp2.length = ns.length ∧ (∀ x ∈ sp2, -450000000189 ≤ x ∧ x ≤ 450000000189) ∧ (sIf (cTt (c2 pEq (cCall φ__law_take (aOw (cMv 0) (some 0) (aRo (cK (.int 6)) aNil))) (cK (.int 0)))) (sAsg (cLc (iAnyD (cVar 2)) [4] (gSet 4) cYes (c2 pMulI (cVar 4) (cK (.int 50000000021)))) (gSet 2)) sNil) (SPE (st c1 t1) ns (some (.lst .m (sp.map D.int))) none none) = .nx (SPE (st c2' (t1 + 1)) ns (some (.lst .m (sp2.map D.int))) none none) := by
    have q1 := imm_st c1 t1
    have q2 := nol_st c2' (t1 + 1)
    generalize st c1 t1 = A at *
    generalize st c2' (t1 + 1) = A1 at *
    by_cases h0 : r6 = 0
    · refine ⟨sp.map fun x => x * 50000000021, by simpa using l1, fun x hx => ?_, ?_⟩
      · obtain ⟨y, hy, rfl⟩ := List.mem_map.mp hx
        have := b1 y hy; omega
      · have hc := lc_mp (f := D.int) (vs := [4]) (g := gSet 4) (ce := c2 pMulI (cVar 4) (cK (.int 50000000021))) (env := SPE A1 ns (some (.lst .m (sp.map D.int))) none none) (y := fun x => D.int (x * 50000000021)) (xs := sp) (fun x hx => ⟨SPE A1 ns (some (.lst .m (sp.map D.int))) none (some (.int x)), rfl, rfl, by unfold SPE; simp, rfl⟩)
        have hz : sp.length ≤ sizeLine := sz_ok (by omega)
        unfold SPE at *
        have hm : (sp.map fun x => D.int (x * 50000000021)) = (sp.map fun x => x * 50000000021).map D.int := by simp
        rw [hm] at hc
        simp [h0, e6, q1, q2, hc, hz]
    · refine ⟨sp, l1, fun x hx => ?_, ?_⟩
      · have := b1 x hx; omega
      · unfold SPE; simp [h0, e6, q1, q2]
  obtain ⟨rr, c3, e3, p3, q3, s3⟩ := v_take s2 (by omega) (m := 2 * ns.length + 1) (by omega) (by omega)
  have hloop := for_inv (f := fun i : Nat => D.int (i : Nat)) (g := gSet 6) (body := l__law_joinings_1)
    (fun rest env => ∃ js c t o6 o7 o8 o9 o10 o11 o12, env = JB (st c t) ns sp2 js o6 o7 o8 o9 o10 o11 o12 ∧ JOk ns js ∧ js.length + rest.length = rr.toNat ∧ StO (B + 20 + 7 * js.length) c t)
    (fun x xs env ⟨js, c, t, o6, o7, o8, o9, o10, o11, o12, e, hj, hl, hs⟩ => by
      simp only [List.length_cons] at hl
      obtain ⟨js', c', t', p7, p8, p9, p10, p11, p12, f1, f2, f3, f4⟩ := v_join_step hs (by omega) (by omega) (by omega) l2 b2 hj (by omega) (some (.int (x : Nat))) o7 o8 o9 o10 o11 o12
      refine ⟨_, _, (by rw [e]; rfl), f1, js', c', t', _, _, _, _, _, _, _, rfl, f2, by omega, f4.up (by omega)⟩)
    (List.range rr.toNat) (JB (st c3 (t1 + 1 + 1)) ns sp2 [] none none none none none none none) ⟨[], _, _, _, _, _, _, _, _, _, rfl, ⟨fun _ z => (nomatch z), fun _ z => (nomatch z), fun _ z => (nomatch z), fun _ z => (nomatch z)⟩, by simp, s3.up (by simp; omega)⟩
  obtain ⟨env3, f1, js, c5, t5, o6, o7, o8, o9, o10, o11, o12, rfl, hj, hl, hs⟩ := hloop
  simp at hl
  refine ⟨js, c5, t5, ?_, hj, by omega, hs.up (by omega)⟩
  have hr := e_rng rr (by omega) (by omega)
  have hz : ns.length ≤ sizeLine := sz_ok (by omega)
  have q0 := imm_st c t
  have q1 := nol_st c1 t1
  have q3 := imm_st c2' (t1 + 1)
  have q4 := nol_st c3 (t1 + 1 + 1)
  have q5 := nol_st c5 t5
  refine fn_rt (env0 := SPE (st c t) ns none none none) (env := (JB (st c5 t5) ns sp2 js o6 o7 o8 o9 o10 o11 o12).set 5 none) ⟨rfl, by decide⟩ rfl ?_ (by rfl)
  unfold b__law_joinings
  generalize st c t = A at *
  generalize st c1 t1 = A1 at *
  generalize st c2' (t1 + 1) = A2 at *
  generalize st c3 (t1 + 1 + 1) = A3 at *
  generalize st c5 t5 = A5 at *
  refine seq_nx (env1 := SPE A1 ns (some (.lst .m (sp.map D.int))) none none) ?_ ?_
  · unfold SPE at *; simp [e1, hz, q1]
  refine seq_nx e2 ?_
  refine seq_nx (env1 := JB A2 ns sp2 [] none none none none none none none) ?_ ?_
  · unfold SPE JB; simp
  refine seq_nx (env1 := JB A5 ns sp2 js o6 o7 o8 o9 o10 o11 o12) ?_ ?_
  · unfold JB at *
    simp only [List.map_nil] at f1
    simp [e3, hr, f1, q3, q4]
  · unfold JB; simp
end VS

set_option maxRecDepth 100000
set_option maxHeartbeats 0
namespace VS
open PySem L2 SeqAt
theorem nd_len : ∀ {l m : List Str}, l.Nodup → (∀ x ∈ l, x ∈ m) → l.length ≤ m.length
  | [], m, _, _ => Nat.zero_le _
  | x :: l, m, nd, h => by
    have hx := h x (by simp)
    have ih := nd_len (l := l) (m := m.erase x) (List.nodup_cons.mp nd).2 (fun y hy => (List.mem_erase_of_ne (fun e => (List.nodup_cons.mp nd).1 (by subst e; exact hy))).mpr (h y (by simp [hy])))
    rw [List.length_erase_of_mem hx] at ih
    have := List.length_pos_of_mem hx
    simp only [List.length_cons]; omega
theorem putP_fd {fs : List Str} {g : Str → D} {n : Str} {x : D} (nd : fs.Nodup) : ∃ fs' : List Str, putP (fs.map Sum.inr, fs.map g) (Sum.inr n) x = (fs'.map Sum.inr, fs'.map (up1 g n x)) ∧ fs'.Nodup ∧ ∀ m, m ∈ fs' ↔ m ∈ fs ∨ m = n := by
  unfold putP
  simp only
  rw [idxK_fd Sum.inr inr_inj]
  by_cases h : n ∈ fs
  · rw [if_pos h]
    exact ⟨fs, by simp only [set_find fs g n x nd h], nd, fun m => ⟨.inl, fun z => z.elim id fun e => e ▸ h⟩⟩
  · rw [if_neg h]
    have e : fs.map (up1 g n x) = fs.map g := List.map_congr_left fun y hy => by
      have : y ≠ n := fun z => h (z ▸ hy)
      simp [up1, this]
    refine ⟨fs ++ [n], by simp only [List.map_append, List.map_cons, List.map_nil, e]; simp [up1], ?_, by simp⟩
    rw [List.nodup_append]
    exact ⟨nd, by simp, fun a ha b hb => by simp at hb; subst hb; exact fun e => h (e ▸ ha)⟩
theorem fold_same (d : D) : ∀ (ns : List Str) (fs : List Str) (g : Str → D), fs.Nodup → ∃ fs' : List Str, (ns.map fun n => ((Sum.inr n : Key), d)).foldl (fun acc p => putP acc p.1 p.2) (fs.map Sum.inr, fs.map g) = (fs'.map Sum.inr, fs'.map fun n => if n ∈ ns then d else g n) ∧ fs'.Nodup ∧ ∀ m, m ∈ fs' ↔ m ∈ fs ∨ m ∈ ns
  | [], fs, g, nd => ⟨fs, by simp, nd, by simp⟩
  | n :: ns, fs, g, nd => by
    obtain ⟨f1, e1, nd1, h1⟩ := putP_fd (g := g) (n := n) (x := d) nd
    obtain ⟨f2, e2, nd2, h2⟩ := fold_same d ns f1 (up1 g n d) nd1
    refine ⟨f2, ?_, nd2, fun m => by rw [h2, h1, List.mem_cons, or_assoc]⟩
    rw [List.map_cons, List.foldl_cons]
    simp only
    rw [e1, e2]
    congr 1
    refine List.map_congr_left fun m hm => ?_
    by_cases z : m ∈ ns
    · simp [z]
    · by_cases y : m = n
      · simp [z, y, up1]
      · simp [z, y, up1]
/-- names and what stands at them -/
def MD (fs : List Str) (f : Str → Str) : D := .dct .m (fs.map Sum.inr) (fs.map fun n => .str (f n))
structure MOk (ns fs : List Str) (f : Str → Str) : Prop where
  nd : fs.Nodup
  sub : ∀ n ∈ fs, n ∈ ns
  out : ∀ n, n ∉ fs → f n = n
  val : ∀ n, f n ∈ fs ∨ f n = n
def fnx (f : Str → Str) (m w : Str) : Str → Str := fun n => if f n = w then m else f n
theorem MOk.get {ns fs : List Str} {f : Str → Str} (h : MOk ns fs f) (n : Str) : (lookD (fs.map Sum.inr) (fs.map fun n => D.str (f n)) (Sum.inr n)).getD (.str n) = .str (f n) := by
  rw [look_fd]
  by_cases z : n ∈ fs
  · simp [z]
  · simp [z, h.out n z]
theorem pairs_same (m : Str) : ∀ ns : List Str, pairsD (ns.map fun n => D.tup [.str n, .str m]) = some (ns.map fun n => ((Sum.inr n : Key), D.str m))
  | [] => rfl
  | n :: ns => by simp [pairsD, D.key, pairs_same m ns]
theorem imms_same (m : Str) : ∀ ns : List Str, imms (ns.map fun n => D.tup [.str n, .str m]) = true
  | [] => rfl
  | n :: ns => by simp [imms_same m ns]
theorem imms_fs (f : Str → Str) : ∀ ns : List Str, imms (ns.map fun n => D.str (f n)) = true
  | [] => rfl
  | n :: ns => by simp [imms_fs f ns]
theorem upd_marks {ns fs : List Str} {f : Str → Str} (h : MOk ns fs f) (hl : ns.length ≤ 100) {x y : Str} (hx : x ∈ ns) (hy : y ∈ ns) (hne : f x ≠ f y) :
    ∃ d1 fs', mUpdL (MD fs f) [.lst .m ((fs.filter fun n => decide (f n = f y)).map fun n => .tup [.str n, .str (f x)])] = some (d1, .non) ∧ (∃ k1 v1, d1 = .dct .m k1 v1) ∧
      mUpdD d1 [.dct .m [Sum.inr x, Sum.inr y] [.str (f x), .str (f x)]] = some (MD fs' (fnx f (f x) (f y)), .non) ∧ MOk ns fs' (fnx f (f x) (f y)) := by
  obtain ⟨f1, e1, nd1, h1⟩ := fold_same (.str (f x)) (fs.filter fun n => decide (f n = f y)) fs (fun n => .str (f n)) h.nd
  obtain ⟨f2, e2, nd2, h2⟩ := fold_same (.str (f x)) [x, y] f1 (fun n => if n ∈ fs.filter (fun n => decide (f n = f y)) then .str (f x) else .str (f n)) nd1
  have hf1 : ∀ m, m ∈ f1 ↔ m ∈ fs := fun m => by
    rw [h1]
    constructor
    · rintro (z | z)
      · exact z
      · exact (List.mem_filter.mp z).1
    · exact .inl
  have l0 : fs.length ≤ 100 := by have := nd_len h.nd h.sub; omega
  have lf : (fs.filter fun n => decide (f n = f y)).length ≤ 100 := by have := List.length_filter_le (fun n => decide (f n = f y)) fs; omega
  have l1 : f1.length ≤ 100 := by have := nd_len nd1 (fun m hm => h.sub m ((hf1 m).mp hm)); omega
  have hz : ∀ k : Nat, k ≤ 200 → k ≤ sizeLine := fun k hk => sz_ok (by omega)
  have hxy : x ≠ y := fun z => hne (by rw [z])
  refine ⟨.dct .m (f1.map Sum.inr) (f1.map fun n => if n ∈ fs.filter (fun n => decide (f n = f y)) then .str (f x) else .str (f n)), f2, ?_, ⟨_, _, rfl⟩, ?_, ?_⟩
  · unfold mUpdL MD
    simp only [imms_fs, imms_same, pairs_same, Option.map_some, e1, List.length_map]
    rw [if_pos (by simp; exact hz _ (by omega))]
  · have im : imms (f1.map fun n => if n ∈ fs.filter (fun n => decide (f n = f y)) then D.str (f x) else .str (f n)) = true := by
      rw [imms_all, List.all_eq_true]
      intro d hd
      obtain ⟨n, _, rfl⟩ := List.mem_map.mp hd
      split <;> rfl
    have ez : ([Sum.inr x, Sum.inr y] : List Key).zip [D.str (f x), .str (f x)] = [x, y].map fun n => ((Sum.inr n : Key), D.str (f x)) := rfl
    have ev : (f2.map fun n => if n ∈ [x, y] then D.str (f x) else if n ∈ fs.filter (fun n => decide (f n = f y)) then .str (f x) else .str (f n)) = f2.map fun n => D.str (fnx f (f x) (f y) n) := by
      refine List.map_congr_left fun n hn => ?_
      unfold fnx
      by_cases z : n ∈ [x, y]
      · rw [if_pos z]
        have : n = x ∨ n = y := by simpa using z
        rcases this with rfl | rfl
        · rw [if_neg hne]
        · rw [if_pos rfl]
      · rw [if_neg z]
        have hfs : n ∈ fs := by
          rcases (h2 n).mp hn with q | q
          · exact (hf1 n).mp q
          · exact absurd q z
        by_cases w : f n = f y
        · rw [if_pos (List.mem_filter.mpr ⟨hfs, by simp [w]⟩), if_pos w]
        · rw [if_neg (fun q => w (by simpa using (List.mem_filter.mp q).2)), if_neg w]
    unfold mUpdD MD
    simp only [im, ez, e2, ev]
    rw [if_pos (by simp; exact hz _ (by omega))]
  · have hm2 : ∀ m, m ∈ f2 ↔ m ∈ fs ∨ m = x ∨ m = y := fun m => by rw [h2, hf1]; simp
    refine ⟨nd2, fun n hn => ?_, fun n hn => ?_, fun n => ?_⟩
    · rcases (hm2 n).mp hn with z | rfl | rfl
      · exact h.sub n z
      · exact hx
      · exact hy
    · have nn : n ∉ fs ∧ n ≠ x ∧ n ≠ y := by
        have := fun z => hn ((hm2 n).mpr z)
        exact ⟨fun z => this (.inl z), fun z => this (.inr (.inl z)), fun z => this (.inr (.inr z))⟩
      have e := h.out n nn.1
      unfold fnx
      rw [if_neg, e]
      intro z
      rw [e] at z
      rcases h.val y with q | q
      · rw [← z] at q; exact nn.1 q
      · rw [q] at z; exact nn.2.2 z
    · unfold fnx
      by_cases w : f n = f y
      · rw [if_pos w]
        left
        rw [hm2]
        rcases h.val x with q | q
        · exact .inl q
        · exact .inr (.inl q)
      · rw [if_neg w]
        rcases h.val n with q | q
        · exact .inl ((hm2 _).mpr (.inl q))
        · exact .inr q
/-- the marks tell what hangs together -/
def MC (L : List J) (f : Str → Str) : Prop := ∀ a b, f a = f b ↔ Conn L a b
theorem MC.same {L : List J} {f : Str → Str} (h : MC L f) {x y : Str} {z : Int} (e : f x = f y) : MC (L ++ [(x, y, z)]) f := fun a b => by
  rw [conn_snoc, h]
  have c := (h x y).mp e
  constructor
  · exact .inl
  · rintro (q | ⟨q1, q2⟩ | ⟨q1, q2⟩)
    · exact q
    · exact q1.trans (c.trans q2)
    · exact q1.trans (c.symm.trans q2)
theorem MC.step {L : List J} {f : Str → Str} (h : MC L f) {x y : Str} {z : Int} : MC (L ++ [(x, y, z)]) (fnx f (f x) (f y)) := fun a b => by
  rw [conn_snoc, ← h, ← h, ← h, ← h, ← h]
  unfold fnx
  by_cases p : f a = f y <;> by_cases q : f b = f y <;> simp only [p, q, if_true, if_false]
  · simp
  · constructor
    · intro e; exact .inr (.inr ⟨trivial, e⟩)
    · rintro (e | ⟨e1, e2⟩ | ⟨_, e⟩)
      · exact absurd e.symm q
      · exact absurd e2.symm q
      · exact e
  · constructor
    · intro e; exact .inr (.inl ⟨e, trivial⟩)
    · rintro (e | ⟨e, _⟩ | ⟨e, _⟩)
      · exact e.elim
      · exact e
      · exact e.elim
  · constructor
    · exact .inl
    · rintro (e | ⟨_, e⟩ | ⟨e, _⟩)
      · exact e
      · exact absurd e.symm q
      · exact e.elim
end VS

set_option maxRecDepth 100000
set_option maxHeartbeats 0
namespace VS
open PySem L2 SeqAt
def nI (i : Nat) : D := .int (i : Nat)
def HE (d0 d1 : D) (held : List Nat) (o3 o4 o5 o6 o7 o8 o9 : Option D) : Env := [some d0, some d1, some (.lst .m (held.map nI)), o3, o4, o5, o6, o7, o8, o9]
theorem lends_fs (f : Str → Str) : ∀ ns : List Str, lends (ns.map fun n => D.str (f n)) = ns.map fun n => D.str (f n)
  | [] => rfl
  | n :: ns => by simp [lends_fs f ns]
theorem nols_same (m : Str) : ∀ ns : List Str, nols (ns.map fun n => D.tup [.str n, .str m]) = true
  | [] => rfl
  | n :: ns => by rw [List.map_cons]; show (D.nol _ && nols _) = true; rw [nols_same m ns]; rfl
theorem noks_same (m : Str) : ∀ ns : List Str, noks (ns.map fun n => D.tup [.str n, .str m]) = true
  | [] => rfl
  | n :: ns => by rw [List.map_cons]; show (D.nok _ && noks _) = true; rw [noks_same m ns]; rfl
theorem keys_fs : ∀ fs : List Str, (fs.map (Sum.inr : Str → Key)).map keyD = fs.map D.str
  | [] => rfl
  | n :: ns => by rw [List.map_cons, List.map_cons, keys_fs ns]; rfl
section
variable {ns fs : List Str} {f : Str → Str} {d0 : D} {held : List Nat} {o3 o4 o5 o6 : Option D}
theorem comp_marks (h : MOk ns fs f) (hl : ns.length ≤ 100) (m w : Str) : (cLend 1 [9, 7] (cLock 1 none [9, 7] (cLc (iKeysD (cVar 1)) [9] (gSet 9) (cTt (c2 pEq (cIdx (cVar 1) (cVar 9)) (cVar 8))) (cTup (cCons (cGet 9) (cCons (cImm (cVar 7)) cNil)))))) (HE d0 (MD fs f) held o3 o4 o5 o6 (some (.str m)) (some (.str w)) none)
    = .ok (.lst .m ((fs.filter fun n => decide (f n = w)).map fun n => .tup [.str n, .str m])) (HE d0 (MD fs f) held o3 o4 o5 o6 (some (.str m)) (some (.str w)) none) := by
  have l0 : fs.length ≤ 100 := by have := nd_len h.nd h.sub; omega
  have hz : fs.length ≤ sizeLine := sz_ok (by omega)
  have hc := lc_flt (f := D.str) (vs := [9]) (g := gSet 9) (ct := cTt (c2 pEq (cIdx (cVar 1) (cVar 9)) (cVar 8))) (ce := cTup (cCons (cGet 9) (cCons (cImm (cVar 7)) cNil)))
    (env := HE d0 (.dct .k (fs.map Sum.inr) (fs.map fun n => .str (f n))) held o3 o4 o5 o6 (some (.str m)) (some (.str w)) none) (y := fun n => D.tup [.str n, .str m]) (t := fun n => decide (f n = w)) (xs := fs)
    (fun n hn => ⟨HE d0 (.dct .k (fs.map Sum.inr) (fs.map fun n => .str (f n))) held o3 o4 o5 o6 (some (.str m)) (some (.str w)) (some (.str n)), rfl, rfl, by unfold HE; simp [hn]; rw [Bool.eq_iff_iff]; simp, fun _ => by unfold HE; simp, rfl⟩)
  have e0 := keys_fs fs
  have e1 := lends_fs f fs
  have e2 := nols_same m (fs.filter fun n => decide (f n = w))
  have e3 := noks_same m (fs.filter fun n => decide (f n = w))
  unfold HE at hc
  unfold HE MD
  generalize hV : (fs.map fun n => D.str (f n)) = V at *
  generalize hR : ((fs.filter fun n => decide (f n = w)).map fun n => D.tup [.str n, .str m]) = R at *
  have q1 : (D.lst .m R).nol = true := by show ((Fl.m == Fl.m || Fl.m == Fl.f) && nols R) = true; rw [e2]; rfl
  have q2 : (D.lst .m R).nok = true := by show ((Fl.m != Fl.k) && noks R) = true; rw [e3]; rfl
  have hin : cLc (iKeysD (cVar 1)) [9] (gSet 9) (cTt (c2 pEq (cIdx (cVar 1) (cVar 9)) (cVar 8))) (cTup (cCons (cGet 9) (cCons (cImm (cVar 7)) cNil))) [some d0, some (.dct .k (fs.map Sum.inr) V), some (.lst .m (held.map nI)), o3, o4, o5, o6, some (.str m), some (.str w), none] = .ok (.lst .m R) [some d0, some (.dct .k (fs.map Sum.inr) V), some (.lst .m (held.map nI)), o3, o4, o5, o6, some (.str m), some (.str w), none] := by
    simp [hc, e0, hz]
  generalize cLc (iKeysD (cVar 1)) _ _ _ _ = CC at hin ⊢
  have q3 : (D.str m).nok = true := by unfold D.nok; rfl
  unfold cLend
  simp [e1, q3, lockD, hin, lockEndE, lendEndE, q1, q2, okK, okN]
  all_goals first | rfl | skip
theorem e_getMD (h : MOk ns fs f) (n : Str) : getD2 (MD fs f) (.str n) (.str n) = some (.str (f n)) := by
  unfold MD
  simp only [e_getd]
  rw [show (D.str n).key = some (Sum.inr n) from rfl, Option.map_some, h.get]
theorem v_lh_step (h : MOk ns fs f) (hl : ns.length ≤ 100) {x y : Str} {z : Int} (hx : x ∈ ns) (hy : y ∈ ns) (hh : held.length ≤ 1000) (i : Nat) (o7 o8 : Option D) :
    ∃ fs', l__law_holding_1 (HE d0 (MD fs f) held (some (nI i)) (some (.str x)) (some (.str y)) (some (.int z)) o7 o8 none) = .nx (HE d0 (MD fs' (if f x = f y then f else fnx f (f x) (f y))) (if f x = f y then held else held ++ [i]) (some (nI i)) (some (.str x)) (some (.str y)) (some (.int z)) (some (.str (f x))) (some (.str (f y))) none) ∧ MOk ns fs' (if f x = f y then f else fnx f (f x) (f y)) := by
  have g1 := e_getMD h x
  have g2 := e_getMD h y
  have hd : isDct (MD fs f) = true := rfl
  by_cases e : f x = f y
  · refine ⟨fs, ?_, by rw [if_pos e]; exact h⟩
    rw [if_pos e, if_pos e]
    unfold l__law_holding_1
    rw [e] at g1
    generalize MD fs f = A at *
    unfold HE; simp [g1, g2, hd, e]
  · obtain ⟨d1, fs', u1, ⟨k1, v1, hd1⟩, u2, ok⟩ := upd_marks h hl hx hy e
    refine ⟨fs', ?_, by rw [if_neg e]; exact ok⟩
    rw [if_neg e, if_neg e]
    have cm := comp_marks (d0 := d0) (held := held ++ [i]) (o3 := some (nI i)) (o4 := some (.str x)) (o5 := some (.str y)) (o6 := some (.int z)) h hl (f x) (f y)
    have hz : held.length < sizeLine := sz_lt (by omega)
    have hxy : x ≠ y := fun z => e (by rw [z])
    have kd0 : kdM (MD fs f) = true := rfl
    unfold l__law_holding_1
    generalize cLend _ _ _ = CC at cm ⊢
    generalize hm : MD fs' (fnx f (f x) (f y)) = A2 at *
    generalize MD fs f = A at *
    generalize fnx f (f x) (f y) = ff at *
    refine seq_nx (env1 := HE d0 A held (some (nI i)) (some (.str x)) (some (.str y)) (some (.int z)) (some (.str (f x))) (some (.str (f y))) none) (by unfold HE; simp [g1, g2, hd]) ?_
    have ht : ∀ env', (sSeq (sExpr (cMut 2 kdL mAppend (lVar 2) (cCons (cGet 3) cNil))) (sSeq (sExpr (cMutV 1 kdM mUpdL (cCons CC cNil))) (sExpr (cMut 1 kdM mUpdD (lVar 1) (cCons (cDisp (((cVar 4), (cImm (cVar 7))) :: (((cVar 5), (cImm (cVar 7))) :: []))) cNil))))) (HE d0 A held (some (nI i)) (some (.str x)) (some (.str y)) (some (.int z)) (some (.str (f x))) (some (.str (f y))) none) = .nx env' →
      (sIf (cTt (c2 pNe (cVar 7) (cVar 8))) (sSeq (sExpr (cMut 2 kdL mAppend (lVar 2) (cCons (cGet 3) cNil))) (sSeq (sExpr (cMutV 1 kdM mUpdL (cCons CC cNil))) (sExpr (cMut 1 kdM mUpdD (lVar 1) (cCons (cDisp (((cVar 4), (cImm (cVar 7))) :: (((cVar 5), (cImm (cVar 7))) :: []))) cNil))))) sNil) (HE d0 A held (some (nI i)) (some (.str x)) (some (.str y)) (some (.int z)) (some (.str (f x))) (some (.str (f y))) none) = .nx env' := by
      intro env' q
      generalize (sSeq (sExpr (cMut 2 kdL mAppend (lVar 2) (cCons (cGet 3) cNil))) _) = TT at q ⊢
      unfold HE at *
      simp [e, q]
    refine ht _ ?_
    refine seq_nx (env1 := HE d0 A (held ++ [i]) (some (nI i)) (some (.str x)) (some (.str y)) (some (.int z)) (some (.str (f x))) (some (.str (f y))) none) (by unfold HE; simp [hz, lVar, nI]) ?_
    refine seq_nx (env1 := HE d0 d1 (held ++ [i]) (some (nI i)) (some (.str x)) (some (.str y)) (some (.int z)) (some (.str (f x))) (some (.str (f y))) none) ?_ ?_
    · unfold HE at *
      simp only [List.map_append, List.map_cons, List.map_nil] at cm
      simp [kd0, cm, u1]
    · have kd1 : kdM d1 = true := by rw [hd1]; rfl
      unfold HE
      simp [kd1, lVar, D.key, hxy, u2]
end
/-- the numbers below k of those that hold -/
noncomputable def hs (js : List Jn) (k : Nat) : List Nat := (List.range k).filter (hB js)
theorem hs_succ (js : List Jn) (k : Nat) : hs js (k + 1) = hs js k ++ (if hB js k = true then [k] else []) := by
  unfold hs
  rw [List.range_succ, List.filter_append]
  congr 1
  simp [List.filter_cons]
theorem v_lholding {ns : List Str} {js : List Jn} (hj : JOk ns js) (hl : ns.length ≤ 100) (hjl : js.length ≤ 1000) : φ__law_holding [.lst .l (js.map jt)] = .ok (.lst .m ((hs js js.length).map nI)) [] := by
  have hnum := numD_mp jt 0 js
  have hloop := for_inv (f := fun p : Jn × Nat => D.tup [.int (p.2 : Nat), jt p.1]) (g := gTupD 2 (gConsD (gSet 3) (gConsD (gTupD 3 (gConsD (gSet 4) (gConsD (gSet 5) (gConsD (gSet 6) gNilD)))) gNilD))) (body := l__law_holding_1)
    (fun rest env => ∃ k fs f o3 o4 o5 o6 o7 o8, rest = (js.drop k).zipIdx k ∧ k ≤ js.length ∧ env = HE (.lst .l (js.map jt)) (MD fs f) (hs js k) o3 o4 o5 o6 o7 o8 none ∧ MOk ns fs f ∧ MC (sel js allB k) f)
    (fun p rest env ⟨k, fs, f, o3, o4, o5, o6, o7, o8, e1, hk, e2, ok, mc⟩ => by
      have hk' : k < js.length := by
        refine Nat.lt_of_not_le fun z => ?_
        have : js.drop k = [] := List.drop_eq_nil_of_le z
        rw [this] at e1; simp at e1
      have ed : js.drop k = js[k] :: js.drop (k + 1) := List.drop_eq_getElem_cons hk'
      rw [ed, List.zipIdx_cons] at e1
      obtain ⟨rfl, rfl⟩ := List.cons.inj e1
      have eg : js[k]? = some js[k] := List.getElem?_eq_getElem hk'
      have mem : js[k] ∈ js := List.getElem_mem hk'
      generalize hjk : js[k] = j at *
      obtain ⟨x, y, z⟩ := j
      have hhl : (hs js k).length ≤ 1000 := by
        have := List.length_filter_le (hB js) (List.range k)
        rw [List.length_range] at this
        show ((List.range k).filter (hB js)).length ≤ 1000
        omega
      obtain ⟨fs', g1, g2⟩ := v_lh_step (d0 := .lst .l (js.map jt)) (z := z) ok hl (hj.one _ mem) (hj.other _ mem) hhl k o7 o8
      refine ⟨HE (.lst .l (js.map jt)) (MD fs f) (hs js k) (some (nI k)) (some (.str x)) (some (.str y)) (some (.int z)) o7 o8 none, _, by rw [e2]; rfl, g1, k + 1, fs', (if f x = f y then f else fnx f (f x) (f y)), some (nI k), some (.str x), some (.str y), some (.int z), some (.str (f x)), some (.str (f y)), rfl, hk', ?_, g2, ?_⟩
      · have hb := hB_at eg
        have : (if f x = f y then hs js k else hs js k ++ [k]) = hs js (k + 1) := by
          rw [hs_succ]
          by_cases e : f x = f y
          · have : ¬ hB js k = true := fun w => (hb.mp w) ((mc x y).mp e)
            rw [if_pos e, if_neg this, List.append_nil]
          · have : hB js k = true := hb.mpr fun w => e ((mc x y).mpr w)
            rw [if_neg e, if_pos this]
        rw [← this]
      · have es : sel js allB (k + 1) = sel js allB k ++ [(x, y, z)] := by simp [sel, eg, allB]
        rw [es]
        by_cases e : f x = f y
        · rw [if_pos e]; exact mc.same e
        · rw [if_neg e]; exact mc.step)
    js.zipIdx (HE (.lst .l (js.map jt)) (MD [] id) [] none none none none none none none)
    ⟨0, [], id, none, none, none, none, none, none, by simp, Nat.zero_le _, rfl, ⟨by simp, by simp, fun _ _ => rfl, fun _ => .inr rfl⟩, fun a b => ⟨fun h => by cases h; exact .refl _, fun h => by
      obtain ⟨o, r⟩ := h
      show a = b
      induction r with
      | refl => rfl
      | fwd _ m _ => cases m
      | bwd _ m _ => cases m⟩⟩
  obtain ⟨env', f1, k, fs, f, o3, o4, o5, o6, o7, o8, e1, hk, rfl, ok, mc⟩ := hloop
  have hkl : k = js.length := by
    have := congrArg List.length e1
    simp at this; omega
  subst hkl
  refine fn_rt (env0 := [some (.lst .l (js.map jt)), none, none, none, none, none, none, none, none, none]) (env := (HE (.lst .l (js.map jt)) (MD fs f) (hs js js.length) o3 o4 o5 o6 o7 o8 none).set 2 none) ⟨rfl, by decide⟩ rfl ?_ (by rfl)
  unfold b__law_holding
  refine seq_nx (env1 := [some (.lst .l (js.map jt)), some (MD [] id), none, none, none, none, none, none, none, none]) (by unfold MD; simp) ?_
  refine seq_nx (env1 := HE (.lst .l (js.map jt)) (MD [] id) [] none none none none none none none) (by unfold HE; simp) ?_
  refine seq_nx (env1 := HE (.lst .l (js.map jt)) (MD fs f) (hs js js.length) o3 o4 o5 o6 o7 o8 none) ?_ ?_
  · generalize MD [] id = A0 at *
    generalize MD fs f = A1 at *
    generalize hs js js.length = HH at *
    unfold HE at *
    simp only [List.map_nil] at f1
    simp [hnum, f1]
  · unfold HE; simp
end VS

set_option maxRecDepth 100000
set_option maxHeartbeats 0
namespace VS
open PySem L2 SeqAt
/-- heads: names and what stands at them; rt: the head; d: how far off -/
structure UF (ns fs : List Str) (f rt : Str → Str) (d : Str → Nat) : Prop where
  nd : fs.Nodup
  sub : ∀ n ∈ fs, n ∈ ns
  out : ∀ n, n ∉ fs → f n = n ∧ rt n = n ∧ d n = 0
  inn : ∀ n, n ∈ fs → f n ≠ n ∧ rt (f n) = rt n ∧ d n = d (f n) + 1
  root : ∀ n, rt n ∉ fs
  dle : ∀ n, d n ≤ fs.length
theorem UF.get {ns fs : List Str} {f rt : Str → Str} {d : Str → Nat} (h : UF ns fs f rt d) (n : Str) : (lookD (fs.map Sum.inr) (fs.map fun n => D.str (f n)) (Sum.inr n)).getD (.str n) = .str (f n) := by
  rw [look_fd]
  by_cases z : n ∈ fs
  · simp [z]
  · simp [z, (h.out n z).1]
theorem UF.start (ns : List Str) : UF ns [] id id fun _ => 0 := ⟨by simp, by simp, fun _ _ => ⟨rfl, rfl, rfl⟩, by simp, by simp, by simp⟩
theorem UF.step {ns fs : List Str} {f rt : Str → Str} {d : Str → Nat} (h : UF ns fs f rt d) {x y : Str} (hy : y ∈ ns) (hval : ∀ n, rt n ∈ ns ∨ rt n = n) (hne : rt x ≠ rt y) :
    UF ns (fs ++ [rt y]) (fun n => if n = rt y then rt x else f n) (fnx rt (rt x) (rt y)) (fun n => if rt n = rt y then d n + 1 else d n) := by
  have ry := h.root y
  have rx := h.root x
  have orx := h.out _ rx
  have ory := h.out _ ry
  refine ⟨?_, fun n hn => ?_, fun n hn => ?_, fun n hn => ?_, fun n => ?_, fun n => ?_⟩
  · rw [List.nodup_append]
    exact ⟨h.nd, by simp, fun a ha b hb => by simp at hb; subst hb; exact fun e => ry (e ▸ ha)⟩
  · rcases List.mem_append.mp hn with z | z
    · exact h.sub n z
    · have : n = rt y := by simpa using z
      subst this
      rcases hval y with q | q
      · exact q
      · rw [q]; exact hy
  · have hn1 : n ∉ fs ∧ n ≠ rt y := by simpa using hn
    have o := h.out n hn1.1
    have : ¬ rt n = rt y := by rw [o.2.1]; exact hn1.2
    simp only [fnx, this, hn1.2, if_false]
    exact o
  · by_cases z : n = rt y
    · subst z
      have e1 : rt (rt y) = rt y := ory.2.1
      have e2 : ¬ rt (rt x) = rt y := by rw [orx.2.1]; exact hne
      simp only [fnx, if_true, e1, e2, if_false]
      exact ⟨hne, orx.2.1, by rw [ory.2.2, orx.2.2]⟩
    · have hf : n ∈ fs := by
        rcases List.mem_append.mp hn with q | q
        · exact q
        · exact absurd (by simpa using q) z
      have i := h.inn n hf
      simp only [fnx, z, if_false]
      by_cases w : rt n = rt y
      · have w2 : rt (f n) = rt y := by rw [i.2.1]; exact w
        simp only [w, w2, if_true]
        exact ⟨i.1, trivial, by rw [i.2.2]⟩
      · have w2 : ¬ rt (f n) = rt y := by rw [i.2.1]; exact w
        simp only [w, w2, if_false]
        exact i
  · unfold fnx
    by_cases w : rt n = rt y
    · rw [if_pos w]
      simp only [List.mem_append, List.mem_singleton, not_or]
      exact ⟨rx, hne⟩
    · rw [if_neg w]
      simp only [List.mem_append, List.mem_singleton, not_or]
      exact ⟨h.root n, w⟩
  · have := h.dle n
    simp only [List.length_append, List.length_singleton]
    split <;> omega
theorem e_getUF {ns fs : List Str} {f rt : Str → Str} {d : Str → Nat} (h : UF ns fs f rt d) (n : Str) : getD2 (.dct .l (fs.map Sum.inr) (fs.map fun n => .str (f n))) (.str n) (.str n) = some (.str (f n)) := by
  simp only [e_getd]
  rw [show (D.str n).key = some (Sum.inr n) from rfl, Option.map_some, h.get]
theorem v_head {ns fs : List Str} {f rt : Str → Str} {d : Str → Nat} (h : UF ns fs f rt d) (hl : ns.length ≤ 100) (n : Str) : φ_head_of [.dct .l (fs.map Sum.inr) (fs.map fun n => .str (f n)), .str n] = .ok (.str (rt n)) [] := by
  have l0 : fs.length ≤ 100 := by have := nd_len h.nd h.sub; omega
  have hg := e_getUF h
  have hk : ∀ m, m ∈ fs → ixD (.dct .l (fs.map Sum.inr) (fs.map fun n => .str (f n))) (.str m) = some (.str (f m)) := fun m hm => by
    simp [D.key, hm]
  have hd : isDct (.dct .l (fs.map Sum.inr) (fs.map fun n => D.str (f n))) = true := rfl
  generalize D.dct .l (fs.map Sum.inr) (fs.map fun n => D.str (f n)) = A at *
  obtain ⟨env', f1, f2⟩ := wh_inv (ct := l_head_of_2) (body := l_head_of_1) (P := fun k env => ∃ m, env = [some A, some (.str m)] ∧ rt m = rt n ∧ d m = k) (Q := fun env => env = [some A, some (.str (rt n))])
    (fun k env ⟨m, e1, e2, e3⟩ => by
      by_cases hm : m ∈ fs
      · right
        have i := h.inn m hm
        refine ⟨d (f m), env, [some A, some (.str (f m))], by rw [← e3]; exact i.2.2, ?_, ?_, f m, rfl, by rw [i.2.1, e2], rfl⟩
        · rw [e1]; unfold l_head_of_2; simp [hg, hd, i.1]
        · rw [e1]; unfold l_head_of_1; simp [hk m hm]
      · left
        have o := h.out m hm
        refine ⟨env, ?_, ?_⟩
        · rw [e1]; unfold l_head_of_2; simp [hg, hd, o.1]
        · rw [e1, ← e2, o.2.1]) (d n) 100000 [some A, some (.str n)] (by have := h.dle n; omega) ⟨n, rfl, rfl, rfl⟩
  subst f2
  refine fn_rt (env0 := [some A, some (.str n)]) (env := [some A, some (.str (rt n))]) ⟨rfl, by decide⟩ rfl ?_ (by rfl)
  unfold b_head_of
  refine seq_nx (env1 := [some A, some (.str (rt n))]) (by simpa using f1) ?_
  simp
def HE2 (d0 d1 : D) (held : List Nat) (o3 o4 o5 o6 o7 o8 : Option D) : Env := [some d0, some d1, some (.lst .m (held.map nI)), o3, o4, o5, o6, o7, o8]
theorem v_ho_step {ns fs : List Str} {f rt : Str → Str} {d : Str → Nat} {d0 : D} {held : List Nat} (h : UF ns fs f rt d) (hl : ns.length ≤ 100) {x y : Str} {z : Int} (hy : y ∈ ns) (hval : ∀ n, rt n ∈ ns ∨ rt n = n) (hh : held.length ≤ 1000) (i : Nat) (o7 o8 : Option D) :
    ∃ fs' f' d', l_holding_of_1 (HE2 d0 (MD fs f) held (some (nI i)) (some (.str x)) (some (.str y)) (some (.int z)) o7 o8) = .nx (HE2 d0 (MD fs' f') (if rt x = rt y then held else held ++ [i]) (some (nI i)) (some (.str x)) (some (.str y)) (some (.int z)) (some (.str (rt x))) (some (.str (rt y)))) ∧ UF ns fs' f' (if rt x = rt y then rt else fnx rt (rt x) (rt y)) d' := by
  have l0 : fs.length ≤ 100 := by have := nd_len h.nd h.sub; omega
  have hz : held.length < sizeLine := sz_lt (by omega)
  have hz2 : fs.length < sizeLine := sz_lt (by omega)
  have h1 := v_head h hl x
  have h2 := v_head h hl y
  have e0 := lends_fs f fs
  by_cases e : rt x = rt y
  · refine ⟨fs, f, d, ?_, by rw [if_pos e]; exact h⟩
    rw [if_pos e]
    unfold l_holding_of_1
    refine seq_nx (env1 := HE2 d0 (MD fs f) held (some (nI i)) (some (.str x)) (some (.str y)) (some (.int z)) (some (.str (rt x))) (some (.str (rt y)))) ?_ ?_
    · unfold HE2 MD; simp [h1, h2, e0]
    · unfold HE2; simp [e]
  · refine ⟨fs ++ [rt y], _, _, ?_, by rw [if_neg e]; exact h.step hy hval e⟩
    rw [if_neg e]
    have hst : stD (MD fs f) (.str (rt y)) (.str (rt x)) = some (MD (fs ++ [rt y]) fun n => if n = rt y then rt x else f n) := by
      show ((D.str (rt y)).key.bind fun k => if (fs.map (Sum.inr : Str → Key)).length < sizeLine then some (putD (fs.map Sum.inr) (fs.map fun n => D.str (f n)) k (.str (rt x))) else none) = _
      unfold MD
      rw [show (D.str (rt y)).key = some (Sum.inr (rt y)) from rfl, Option.bind_some, if_pos (by simpa using hz2)]
      unfold putD
      rw [idxK_fd Sum.inr inr_inj, if_neg (h.root y)]
      have ev : (fs.map fun n => D.str (if n = rt y then rt x else f n)) = fs.map fun n => D.str (f n) := List.map_congr_left fun n hn => by
        have : n ≠ rt y := fun z => h.root y (z ▸ hn)
        rw [if_neg this]
      simp only [List.map_append, ev]
      simp
    unfold l_holding_of_1
    refine seq_nx (env1 := HE2 d0 (MD fs f) held (some (nI i)) (some (.str x)) (some (.str y)) (some (.int z)) (some (.str (rt x))) (some (.str (rt y)))) ?_ ?_
    · unfold HE2 MD; simp [h1, h2, e0]
    · generalize (MD (fs ++ [rt y]) fun n => if n = rt y then rt x else f n) = A2 at *
      generalize MD fs f = A at *
      unfold HE2; simp [e, hst, lVar, hz, nI]
theorem v_held {ns : List Str} {js : List Jn} {d0 : D} (hd : Hold jt js d0) (hj : JOk ns js) (hl : ns.length ≤ 100) (hjl : js.length ≤ 1000) : φ_holding_of [d0] = .ok (.lst .m ((hs js js.length).map nI)) [] := by
  have hnum := numD_mp jt 0 js
  have hloop := for_inv (f := fun p : Jn × Nat => D.tup [.int (p.2 : Nat), jt p.1]) (g := gTupD 2 (gConsD (gSet 3) (gConsD (gTupD 3 (gConsD (gSet 4) (gConsD (gSet 5) (gConsD (gSet 6) gNilD)))) gNilD))) (body := l_holding_of_1)
    (fun rest env => ∃ k fs f rt d o3 o4 o5 o6 o7 o8, rest = (js.drop k).zipIdx k ∧ k ≤ js.length ∧ env = HE2 d0 (MD fs f) (hs js k) o3 o4 o5 o6 o7 o8 ∧ UF ns fs f rt d ∧ (∀ n, rt n ∈ ns ∨ rt n = n) ∧ MC (sel js allB k) rt)
    (fun p rest env ⟨k, fs, f, rt, d, o3, o4, o5, o6, o7, o8, e1, hk, e2, ok, hv, mc⟩ => by
      have hk' : k < js.length := by
        refine Nat.lt_of_not_le fun z => ?_
        have : js.drop k = [] := List.drop_eq_nil_of_le z
        rw [this] at e1; simp at e1
      have ed : js.drop k = js[k] :: js.drop (k + 1) := List.drop_eq_getElem_cons hk'
      rw [ed, List.zipIdx_cons] at e1
      obtain ⟨rfl, rfl⟩ := List.cons.inj e1
      have eg : js[k]? = some js[k] := List.getElem?_eq_getElem hk'
      have mem : js[k] ∈ js := List.getElem_mem hk'
      generalize hjk : js[k] = j at *
      obtain ⟨x, y, z⟩ := j
      have hx : x ∈ ns := hj.one _ mem
      have hy : y ∈ ns := hj.other _ mem
      have hhl : (hs js k).length ≤ 1000 := by
        have := List.length_filter_le (hB js) (List.range k)
        rw [List.length_range] at this
        show ((List.range k).filter (hB js)).length ≤ 1000
        omega
      obtain ⟨fs', f', d', g1, g2⟩ := v_ho_step (d0 := d0) (x := x) (z := z) ok hl hy hv hhl k o7 o8
      refine ⟨HE2 d0 (MD fs f) (hs js k) (some (nI k)) (some (.str x)) (some (.str y)) (some (.int z)) o7 o8, _, by rw [e2]; rfl, g1, k + 1, fs', f', (if rt x = rt y then rt else fnx rt (rt x) (rt y)), d', some (nI k), some (.str x), some (.str y), some (.int z), some (.str (rt x)), some (.str (rt y)), rfl, hk', ?_, g2, ?_, ?_⟩
      · have hb := hB_at eg
        have : (if rt x = rt y then hs js k else hs js k ++ [k]) = hs js (k + 1) := by
          rw [hs_succ]
          by_cases e : rt x = rt y
          · have : ¬ hB js k = true := fun w => (hb.mp w) ((mc x y).mp e)
            rw [if_pos e, if_neg this, List.append_nil]
          · have : hB js k = true := hb.mpr fun w => e ((mc x y).mpr w)
            rw [if_neg e, if_pos this]
        rw [← this]
      · intro n
        by_cases e : rt x = rt y
        · rw [if_pos e]; exact hv n
        · rw [if_neg e]
          unfold fnx
          by_cases w : rt n = rt y
          · rw [if_pos w]
            rcases hv x with q | q
            · exact .inl q
            · rw [q]; exact .inl hx
          · rw [if_neg w]; exact hv n
      · have es : sel js allB (k + 1) = sel js allB k ++ [(x, y, z)] := by simp [sel, eg, allB]
        rw [es]
        by_cases e : rt x = rt y
        · rw [if_pos e]; exact mc.same e
        · rw [if_neg e]; exact mc.step)
    js.zipIdx (HE2 d0 (MD [] id) [] none none none none none none)
    ⟨0, [], id, id, fun _ => 0, none, none, none, none, none, none, by simp, Nat.zero_le _, rfl, UF.start ns, fun _ => .inr rfl, fun a b => ⟨fun h => by cases h; exact .refl _, fun h => by
      obtain ⟨o, r⟩ := h
      show a = b
      induction r with
      | refl => rfl
      | fwd _ m _ => cases m
      | bwd _ m _ => cases m⟩⟩
  obtain ⟨env', f1, k, fs, f, rt, d, o3, o4, o5, o6, o7, o8, e1, hk, rfl, ok, _, mc⟩ := hloop
  have hkl : k = js.length := by
    have := congrArg List.length e1
    simp at this; omega
  subst hkl
  refine fn_rt (env0 := [some d0, none, none, none, none, none, none, none, none]) (env := (HE2 d0 (MD fs f) (hs js js.length) o3 o4 o5 o6 o7 o8).set 2 none) ⟨rfl, by decide⟩ rfl ?_ (by rfl)
  unfold b_holding_of
  refine seq_nx (env1 := [some d0, some (MD [] id), none, none, none, none, none, none, none]) (by unfold MD; simp) ?_
  refine seq_nx (env1 := HE2 d0 (MD [] id) [] none none none none none none) (by unfold HE2; simp) ?_
  refine seq_nx (env1 := HE2 d0 (MD fs f) (hs js js.length) o3 o4 o5 o6 o7 o8) ?_ ?_
  · generalize MD [] id = A0 at *
    generalize MD fs f = A1 at *
    generalize hs js js.length = HH at *
    unfold HE2 at *
    simp only [List.map_nil] at f1
    cases hd <;> simp [hnum, f1]
  · unfold HE2; simp
end VS

set_option maxRecDepth 100000
set_option maxHeartbeats 0
namespace VS
open PySem L2 SeqAt
abbrev Eg := Nat × Int × Str
def eT (p : Eg) : D := .tup [.tup [.int (p.1 : Nat), .int p.2.1], .str p.2.2]
@[simp] theorem imm_eT (p : Eg) : (eT p).imm = true := rfl
theorem if_t {ct : CT} {s1 s2 : CS} {env env1 : Env} {o : O} (h : ct env = .ok true env1) (h2 : s1 env1 = o) : sIf ct s1 s2 env = o := by
  unfold sIf; rw [h]; exact h2
theorem if_f {ct : CT} {s1 s2 : CS} {env env1 : Env} {o : O} (h : ct env = .ok false env1) (h2 : s2 env1 = o) : sIf ct s1 s2 env = o := by
  unfold sIf; rw [h]; exact h2
theorem get_find : ∀ (ns : List Str) (g : Str → D) (n : Str), n ∈ ns → (ns.map g)[ns.findIdx (· == n)]? = some (g n)
  | [], g, n, h => by cases h
  | m :: ns, g, n, h => by
    by_cases e : m = n
    · subst e; simp [List.findIdx_cons]
    · have hm : n ∈ ns := by
        rcases List.mem_cons.mp h with z | z
        · exact absurd z.symm e
        · exact z
      have ih := get_find ns g n hm
      have eb : (m == n) = false := by simpa using e
      simp only [List.map_cons, List.findIdx_cons, eb, cond_false, List.getElem?_cons_succ]
      exact ih
def ED (g : Fl) (fs : List Str) (E : Str → List Eg) : D := .dct g (fs.map Sum.inr) (fs.map fun a => .lst g ((E a).map eT))
def addE (E : Str → List Eg) (x : Str) (e : Eg) : Str → List Eg := fun a => if a = x then E a ++ [e] else E a
structure EOk (ns fs : List Str) (E : Str → List Eg) (k : Nat) : Prop where
  nd : fs.Nodup
  sub : ∀ n ∈ fs, n ∈ ns
  out : ∀ n, n ∉ fs → E n = []
  len : ∀ n, (E n).length ≤ k
theorem EOk.up {ns fs : List Str} {E : Str → List Eg} {k k' : Nat} (h : EOk ns fs E k) (hk : k ≤ k') : EOk ns fs E k' := ⟨h.nd, h.sub, h.out, fun n => Nat.le_trans (h.len n) hk⟩
theorem put_edge {ns fs : List Str} {E : Str → List Eg} {k : Nat} (h : EOk ns fs E k) (hl : ns.length ≤ 100) {x : Str} (hx : x ∈ ns) (e : Eg) :
    ∃ fs' od G, setdD (ED .m fs E) (.str x) (.lst .m []) = some (od, .lst .m ((E x).map eT), G) ∧ G (.lst .m ((E x).map eT ++ [eT e])) = ED .m fs' (addE E x e) ∧ EOk ns fs' (addE E x e) (k + 1) := by
  have l0 : fs.length ≤ 100 := by have := nd_len h.nd h.sub; omega
  have hz : (fs.map (Sum.inr : Str → Key)).length < sizeLine := by rw [List.length_map]; exact sz_lt (by omega)
  have hs : setdD (ED .m fs E) (.str x) (.lst .m []) = (match idxK (fs.map (Sum.inr : Str → Key)) (Sum.inr x) with
      | some j => ((fs.map fun a => D.lst .m ((E a).map eT))[j]?).map fun z => (none, z, fun w => .dct .m (fs.map Sum.inr) ((fs.map fun a => D.lst .m ((E a).map eT)).set j w))
      | none => some (some (.dct .m (fs.map Sum.inr ++ [Sum.inr x]) ((fs.map fun a => D.lst .m ((E a).map eT)) ++ [D.lst .m []])), D.lst .m [], fun w => .dct .m (fs.map Sum.inr ++ [Sum.inr x]) (((fs.map fun a => D.lst .m ((E a).map eT)) ++ [D.lst .m []]).set (fs.map fun a => D.lst .m ((E a).map eT)).length w))) := by
    show ((D.str x).key.bind fun k => if (fs.map (Sum.inr : Str → Key)).length < sizeLine then _ else none) = _
    rw [show (D.str x).key = some (Sum.inr x) from rfl, Option.bind_some, if_pos hz]
    all_goals rfl
  rw [hs, idxK_fd Sum.inr inr_inj]
  have len : ∀ n, (addE E x e n).length ≤ k + 1 := fun n => by
    have := h.len n
    unfold addE
    split
    · simp; omega
    · omega
  by_cases hm : x ∈ fs
  · rw [if_pos hm]
    simp only [get_find fs _ x hm, Option.map_some]
    refine ⟨fs, none, _, rfl, ?_, h.nd, h.sub, fun n hn => ?_, len⟩
    · rw [set_find fs _ x _ h.nd hm]
      unfold ED
      congr 1
      refine List.map_congr_left fun a _ => ?_
      unfold up1 addE
      by_cases z : a = x
      · subst z; simp
      · simp [z]
    · have : n ≠ x := fun z => hn (z ▸ hm)
      unfold addE; rw [if_neg this]; exact h.out n hn
  · rw [if_neg hm]
    simp only
    refine ⟨fs ++ [x], _, _, by rw [h.out x hm]; rfl, ?_, ?_, fun n hn => ?_, fun n hn => ?_, len⟩
    · rw [h.out x hm]
      unfold ED
      have ev : (fs.map fun a => D.lst .m ((addE E x e a).map eT)) = fs.map fun a => D.lst .m ((E a).map eT) := List.map_congr_left fun a ha => by
        have : a ≠ x := fun z => hm (z ▸ ha)
        unfold addE; rw [if_neg this]
      simp only [List.map_append, ev, List.length_map]
      simp [addE, h.out x hm]
    · rw [List.nodup_append]
      exact ⟨h.nd, by simp, fun a ha b hb => by simp at hb; subst hb; exact fun e => hm (e ▸ ha)⟩
    · rcases List.mem_append.mp hn with z | z
      · exact h.sub n z
      · have : n = x := by simpa using z
        subst this; exact hx
    · have hn1 : n ∉ fs ∧ n ≠ x := by simpa using hn
      unfold addE; rw [if_neg hn1.2]; exact h.out n hn1.1
def EE (d0 d1 d2 : D) (o3 o4 o5 o6 : Option D) : Env := [some d0, some d1, some d2, o3, o4, o5, o6]
/-- which names stand beside which by the numbers done -/
def EAdj (js : List Jn) (done : List Nat) (E : Str → List Eg) : Prop := ∀ a b, (∃ p s, (p, s, b) ∈ E a) ↔ ∃ i, i ∈ done ∧ ∃ j : Jn, js[i]? = some j ∧ j.1 ≠ j.2.1 ∧ ((a = j.1 ∧ b = j.2.1) ∨ (a = j.2.1 ∧ b = j.1))
theorem mem_addE {E : Str → List Eg} {x : Str} {e : Eg} {a b : Str} : (∃ p s, (p, s, b) ∈ addE E x e a) ↔ (∃ p s, (p, s, b) ∈ E a) ∨ (a = x ∧ b = e.2.2) := by
  unfold addE
  by_cases z : a = x
  · rw [if_pos z]
    constructor
    · rintro ⟨p, s, h⟩
      rcases List.mem_append.mp h with q | q
      · exact .inl ⟨p, s, q⟩
      · have : (p, s, b) = e := by simpa using q
        exact .inr ⟨z, by rw [← this]⟩
    · rintro (⟨p, s, h⟩ | ⟨_, h⟩)
      · exact ⟨p, s, List.mem_append_left _ h⟩
      · exact ⟨e.1, e.2.1, List.mem_append_right _ (by rw [h]; simp)⟩
  · rw [if_neg z]
    constructor
    · exact .inl
    · rintro (h | ⟨h, _⟩)
      · exact h
      · exact absurd h z
theorem v_edge_step {ns fs : List Str} {js : List Jn} {d0 d1 : D} {E : Str → List Eg} {k : Nat} (hd : Hold jt js d0) (h : EOk ns fs E k) (hk : k ≤ 1000) (hl : ns.length ≤ 100) {i : Nat} {j : Jn} (ej : js[i]? = some j) (h1 : j.1 ∈ ns) (h2 : j.2.1 ∈ ns) (o4 o5 o6 : Option D) {done : List Nat} (ha : EAdj js done E) :
    ∃ fs' E', l_edges_by_1 (EE d0 d1 (ED .m fs E) (some (nI i)) o4 o5 o6) = .nx (EE d0 d1 (ED .m fs' E') (some (nI i)) (some (.str j.1)) (some (.str j.2.1)) (some (.int j.2.2))) ∧ EOk ns fs' E' (k + 2) ∧ EAdj js (done ++ [i]) E' := by
  have hil : i < js.length := (List.getElem?_eq_some_iff.mp ej).1
  have at0 : atI (js.map jt) (i : Int) = some (jt j) := by
    rw [atI_nat (by simpa using hil)]
    have e2 := (List.getElem?_eq_some_iff.mp ej).2
    simp [ej]
  obtain ⟨x, y, z⟩ := j
  simp only at h1 h2
  have mem1 : ∀ {a b : Str}, (∃ i', i' ∈ done ++ [i] ∧ ∃ j : Jn, js[i']? = some j ∧ j.1 ≠ j.2.1 ∧ ((a = j.1 ∧ b = j.2.1) ∨ (a = j.2.1 ∧ b = j.1))) ↔ (∃ i', i' ∈ done ∧ ∃ j : Jn, js[i']? = some j ∧ j.1 ≠ j.2.1 ∧ ((a = j.1 ∧ b = j.2.1) ∨ (a = j.2.1 ∧ b = j.1))) ∨ (x ≠ y ∧ ((a = x ∧ b = y) ∨ (a = y ∧ b = x))) := by
    intro a b
    constructor
    · rintro ⟨i', hi, j, e, q⟩
      rcases List.mem_append.mp hi with w | w
      · exact .inl ⟨i', w, j, e, q⟩
      · have : i' = i := by simpa using w
        subst this
        rw [ej] at e; cases e
        exact .inr q
    · rintro (⟨i', hi, q⟩ | q)
      · exact ⟨i', List.mem_append_left _ hi, q⟩
      · exact ⟨i, by simp, _, ej, q⟩
  have j3 : jt (x, y, z) = .tup [.str x, .str y, .int z] := rfl
  rw [j3] at at0
  by_cases hxy : x = y
  · refine ⟨fs, E, ?_, h.up (by omega), fun a b => ?_⟩
    · unfold l_edges_by_1
      generalize ED .m fs E = A at *
      unfold EE
      cases hd <;> simp [at0, nI, hxy]
    · rw [mem1]
      constructor
      · exact fun w => .inl ((ha a b).mp w)
      · rintro (w | ⟨w, _⟩)
        · exact (ha a b).mpr w
        · exact absurd hxy w
  · obtain ⟨f1, od, G, s1, s2, ok1⟩ := put_edge h hl h1 (i, 1, y)
    obtain ⟨f2, od2, G2, s3, s4, ok2⟩ := put_edge ok1 hl h2 (i, -1, x)
    refine ⟨f2, _, ?_, ok2, fun a b => ?_⟩
    · have lz1 : (E x).length < sizeLine := sz_lt (by have := h.len x; omega)
      have lz2 : (addE E x (i, 1, y) y).length < sizeLine := sz_lt (by have := ok1.len y; omega)
      have q1 : isDct (ED .m fs E) = true := rfl
      have q2 : isDct (ED .m f1 (addE E x (i, 1, y))) = true := rfl
      have t1 : eT (i, 1, y) = .tup [.tup [.int i, .int 1], .str y] := rfl
      have t2 : eT (i, -1, x) = .tup [.tup [.int i, .int (-1)], .str x] := rfl
      rw [t1] at s2
      rw [t2] at s4
      unfold l_edges_by_1
      generalize ED .m f2 _ = A2 at *
      generalize addE E x (i, 1, y) = E1 at *
      generalize ED .m f1 E1 = A1 at *
      generalize ED .m fs E = A at *
      refine seq_nx (env1 := EE d0 d1 A (some (nI i)) (some (.str x)) (some (.str y)) (some (.int z))) ?_ ?_
      · unfold EE
        cases hd <;> simp [at0, nI]
      refine (?_ : _ = _)
      have e1 : (sExpr (cMut 2 kdL mAppend (lSetd 2 (lVar 2) (cVar 4) (cLst cNil)) (cCons (cTup (cCons (cTup (cCons (cGet 3) (cCons (cK (.int 1)) cNil))) (cCons (cGet 5) cNil))) cNil))) (EE d0 d1 A (some (nI i)) (some (.str x)) (some (.str y)) (some (.int z))) = .nx (EE d0 d1 A1 (some (nI i)) (some (.str x)) (some (.str y)) (some (.int z))) := by
        unfold EE
        cases od <;> simp [lVar, q1, s1, s2, nI, lz1, kdL, mAppend]
      have e2 : (sExpr (cMut 2 kdL mAppend (lSetd 2 (lVar 2) (cVar 5) (cLst cNil)) (cCons (cTup (cCons (cTup (cCons (cGet 3) (cCons (c1 pNeg (cK (.int 1))) cNil))) (cCons (cGet 4) cNil))) cNil))) (EE d0 d1 A1 (some (nI i)) (some (.str x)) (some (.str y)) (some (.int z))) = .nx (EE d0 d1 A2 (some (nI i)) (some (.str x)) (some (.str y)) (some (.int z))) := by
        unfold EE
        cases od2 <;> simp [lVar, q2, s3, s4, nI, lz2, kdL, mAppend]
      have hc : (cTt (c2 pNe (cVar 4) (cVar 5))) (EE d0 d1 A (some (nI i)) (some (.str x)) (some (.str y)) (some (.int z))) = .ok true (EE d0 d1 A (some (nI i)) (some (.str x)) (some (.str y)) (some (.int z))) := by
        unfold EE; simp [hxy]
      exact if_t hc (seq_nx e1 e2)
    · rw [mem1, mem_addE, mem_addE, ha a b]
      constructor
      · rintro ((w | ⟨w1, w2⟩) | ⟨w1, w2⟩)
        · exact .inl w
        · exact .inr ⟨hxy, .inl ⟨w1, w2⟩⟩
        · exact .inr ⟨hxy, .inr ⟨w1, w2⟩⟩
      · rintro (w | ⟨_, ⟨w1, w2⟩ | ⟨w1, w2⟩⟩)
        · exact .inl (.inl w)
        · exact .inl (.inr ⟨w1, w2⟩)
        · exact .inr ⟨w1, w2⟩
theorem v_edges {ns : List Str} {js : List Jn} {d0 : D} (hd : Hold jt js d0) (hj : JOk ns js) (hl : ns.length ≤ 100) {num : List Nat} (hn : ∀ i ∈ num, i < js.length) (hnl : num.length ≤ 400) :
    ∃ fs E, φ_edges_by [d0, .lst .l (num.map nI)] = .ok (ED .m fs E) [] ∧ EOk ns fs E 1000 ∧ EAdj js num E := by
  have hloop := for_inv (f := nI) (g := gSet 3) (body := l_edges_by_1)
    (fun rest env => ∃ done fs E o3 o4 o5 o6, done ++ rest = num ∧ env = EE d0 (.lst .l (num.map nI)) (ED .m fs E) o3 o4 o5 o6 ∧ EOk ns fs E (2 * done.length) ∧ EAdj js done E)
    (fun i rest env ⟨done, fs, E, o3, o4, o5, o6, e1, e2, ok, ha⟩ => by
      have hi : i < js.length := hn i (by rw [← e1]; simp)
      have eg : js[i]? = some js[i] := List.getElem?_eq_getElem hi
      have mem : js[i] ∈ js := List.getElem_mem hi
      have hdl : done.length ≤ 400 := by have := congrArg List.length e1; simp at this; omega
      obtain ⟨fs', E', g1, g2, g3⟩ := v_edge_step (d1 := .lst .l (num.map nI)) hd ok (by omega) hl eg (hj.one _ mem) (hj.other _ mem) o4 o5 o6 ha
      exact ⟨EE d0 (.lst .l (num.map nI)) (ED .m fs E) (some (nI i)) o4 o5 o6, _, by rw [e2]; rfl, g1, done ++ [i], fs', E', _, _, _, _, by simpa using e1, rfl, g2.up (by simp; omega), g3⟩)
    num (EE d0 (.lst .l (num.map nI)) (ED .m [] fun _ => []) none none none none) ⟨[], [], fun _ => [], none, none, none, none, rfl, rfl, ⟨by simp, by simp, fun _ _ => rfl, by simp⟩, fun a b => by simp⟩
  obtain ⟨env', f1, done, fs, E, o3, o4, o5, o6, e1, rfl, ok, ha⟩ := hloop
  have ed : done = num := by simpa using e1
  subst ed
  refine ⟨fs, E, ?_, ok.up (by omega), ha⟩
  have hi : imms (done.map nI) = true := imms_map (f := nI) (fun _ => rfl) done
  refine fn_rt (env0 := [some d0, some (.lst .l (done.map nI)), none, none, none, none, none]) (env := (EE d0 (.lst .l (done.map nI)) (ED .m fs E) o3 o4 o5 o6).set 2 none) ⟨rfl, by decide⟩ rfl ?_ (by rfl)
  unfold b_edges_by
  refine seq_nx (env1 := EE d0 (.lst .l (done.map nI)) (ED .m [] fun _ => []) none none none none) (by unfold EE ED; simp) ?_
  refine seq_nx (env1 := EE d0 (.lst .l (done.map nI)) (ED .m fs E) o3 o4 o5 o6) ?_ ?_
  · generalize ED .m [] (fun _ => []) = A0 at *
    generalize ED .m fs E = A1 at *
    unfold EE at *
    simp [f1, hi]
  · have im : (ED .m fs E).imm = false := rfl
    generalize ED .m fs E = A1 at *
    unfold EE; simp [im]
end VS

set_option maxRecDepth 100000
set_option maxHeartbeats 0
namespace VS
open PySem L2 SeqAt
theorem for_may {α : Type} {f : α → D} {g : D → Env → Option Env} {body : CS} (P : List α → Env → Prop) (Q : D → Env → Prop) (h : ∀ x xs env, P (x :: xs) env → ∃ env1, g (f x) env = some env1 ∧ ((∃ env2, body env1 = .nx env2 ∧ P xs env2) ∨ (∃ r env2, body env1 = .rt r env2 ∧ Q r env2))) :
    ∀ (xs : List α) (env : Env), P xs env → (∃ env', forRun g body (xs.map f) env = .nx env' ∧ P [] env') ∨ (∃ r env', forRun g body (xs.map f) env = .rt r env' ∧ Q r env')
  | [], env, h0 => .inl ⟨env, rfl, h0⟩
  | x :: xs, env, h0 => by
    obtain ⟨env1, h1, h2⟩ := h x xs env h0
    rcases h2 with ⟨env2, b, p⟩ | ⟨r, env2, b, q⟩
    · rcases for_may P Q h xs env2 p with ⟨env', k1, k2⟩ | ⟨r, env', k1, k2⟩
      · exact .inl ⟨env', (for_nx h1 b).trans k1, k2⟩
      · exact .inr ⟨r, env', (for_nx h1 b).trans k1, k2⟩
    · exact .inr ⟨r, env2, for_rt h1 b, q⟩
/-- what is reached, and how far -/
def FD (g : Fl) (R : List Str) (r : Str → Int) : D := .dct g (R.map Sum.inr) (R.map fun a => .int (r a))
structure FI (ns : List Str) (C : Str → Prop) (s : Str) (R : List Str) : Prop where
  nd : R.Nodup
  sub : ∀ n ∈ R, n ∈ ns
  st : s ∈ R
  con : ∀ n ∈ R, C n
theorem FI.len {ns : List Str} {C : Str → Prop} {s : Str} {R : List Str} (h : FI ns C s R) : R.length ≤ ns.length := nd_len h.nd h.sub
theorem e_inFD (g : Fl) (R : List Str) (r : Str → Int) (a : Str) : pInW (.str a) (FD g R r) = some (.bl (decide (a ∈ R))) := by
  have h : pIn (.str a) (FD g R r) = some (.bl (decide (a ∈ R))) := by
    show ((D.str a).key.map fun k => (lookD (R.map Sum.inr) (R.map fun a => D.int (r a)) k).isSome).map D.bl = _
    rw [show (D.str a).key = some (Sum.inr a) from rfl, Option.map_some, look_fd]
    by_cases z : a ∈ R <;> simp [z]
  show orP2 pInS pIn (.str a) (FD g R r) = _
  have h0 : pInS (.str a) (FD g R r) = none := rfl
  unfold orP2
  rw [h0]; exact h
theorem e_ninFD (g : Fl) (R : List Str) (r : Str → Int) (a : Str) : pNotIn (.str a) (FD g R r) = some (.bl (!decide (a ∈ R))) := by
  show ((D.str a).key.map fun k => (lookD (R.map Sum.inr) (R.map fun a => D.int (r a)) k).isSome).map (fun b => D.bl (!b)) = _
  rw [show (D.str a).key = some (Sum.inr a) from rfl, Option.map_some, look_fd]
  by_cases z : a ∈ R <;> simp [z]
theorem e_ixFD (g : Fl) (R : List Str) (r : Str → Int) {a : Str} (h : a ∈ R) : ixD (FD g R r) (.str a) = some (.int (r a)) := by
  unfold FD
  rw [e_ix3, show (D.str a).key = some (Sum.inr a) from rfl, Option.bind_some, look_fd, if_pos h]
theorem st_FD {R : List Str} {r : Str → Int} {b : Str} {x : Int} (hl : R.length < 1000) (h : b ∉ R) : stD (FD .m R r) (.str b) (.int x) = some (FD .m (R ++ [b]) fun a => if a = b then x else r a) := by
  show ((D.str b).key.bind fun k => if (R.map (Sum.inr : Str → Key)).length < sizeLine then some (putD (R.map Sum.inr) (R.map fun n => D.int (r n)) k (.int x)) else none) = _
  unfold FD
  rw [show (D.str b).key = some (Sum.inr b) from rfl, Option.bind_some, if_pos (by rw [List.length_map]; exact sz_lt (by omega))]
  unfold putD
  rw [idxK_fd Sum.inr inr_inj, if_neg h]
  have ev : (R.map fun n => D.int (if n = b then x else r n)) = R.map fun n => D.int (r n) := List.map_congr_left fun n hn => by
    have : n ≠ b := fun z => h (z ▸ hn)
    rw [if_neg this]
  simp only [List.map_append, ev]
  simp
section
variable {ns fs : List Str} {E : Str → List Eg} {C : Str → Prop} {s : Str} {k : Nat}
def FE (A : D) (s : Str) (F : D) (edge : List Str) (o4 o5 o6 o7 : Option D) : Env := [some A, some (.str s), some F, some (.lst .m (edge.map D.str)), o4, o5, o6, o7]
theorem e_edges (h : EOk ns fs E k) (n : Str) : ∃ g, getD2 (ED .l fs E) (.str n) (.lst .m []) = some (.lst g ((E n).map eT)) := by
  unfold ED
  rw [e_getd, show (D.str n).key = some (Sum.inr n) from rfl, Option.map_some, look_fd]
  by_cases z : n ∈ fs
  · exact ⟨.l, by rw [if_pos z]; rfl⟩
  · exact ⟨.m, by rw [if_neg z, h.out n z]; rfl⟩
theorem far_in (hl : ns.length ≤ 100) (hC : ∀ (a : Str) (e : Eg), C a → e ∈ E a → C e.2.2) (hN : ∀ (a : Str) (e : Eg), e ∈ E a → e.2.2 ∈ ns) (A : D) (edge : List Str) (n : Str) {R1 bey1 : List Str} {r1 : Str → Int} {m : Nat} (h1 : FI ns C s R1) (hn : n ∈ R1) (hm : R1.length = m + bey1.length) (hb : ∀ a ∈ bey1, a ∈ R1) (o6 o7 : Option D) :
    ∃ R r, ∃ bey : List Str, ∃ p6 p7, forRun (gTupD 2 (gConsD (gSet 6) (gConsD (gSet 7) gNilD))) l_far_from_1 ((E n).map eT) (FE A s (FD .m R1 r1) edge (some (.lst .m (bey1.map D.str))) (some (.str n)) o6 o7) = .nx (FE A s (FD .m R r) edge (some (.lst .m (bey.map D.str))) (some (.str n)) p6 p7) ∧ FI ns C s R ∧ R.length = m + bey.length ∧ (∀ a ∈ bey, a ∈ R) ∧ (∀ a ∈ R, a ∈ R1 ∨ a ∈ bey) ∧ (∀ a ∈ R1, a ∈ R) ∧ (∀ a ∈ bey1, a ∈ bey) ∧ ∀ e : Eg, e ∈ E n → e.2.2 ∈ R := by
  obtain ⟨env', f1, R, r, bey, p6, p7, rfl, q1, q2, q3, q4, q5, q6, q7, q8⟩ := for_inv (f := eT) (g := gTupD 2 (gConsD (gSet 6) (gConsD (gSet 7) gNilD))) (body := l_far_from_1)
    (fun rest env => ∃ R r, ∃ bey : List Str, ∃ p6 p7, env = FE A s (FD .m R r) edge (some (.lst .m (bey.map D.str))) (some (.str n)) p6 p7 ∧ FI ns C s R ∧ R.length = m + bey.length ∧ (∀ a ∈ bey, a ∈ R) ∧ (∀ a ∈ R, a ∈ R1 ∨ a ∈ bey) ∧ (∀ a ∈ R1, a ∈ R) ∧ (∀ a ∈ bey1, a ∈ bey) ∧ (∀ e : Eg, e ∈ E n → e ∈ rest ∨ e.2.2 ∈ R) ∧ ∀ e : Eg, e ∈ rest → e ∈ E n)
    (fun x rest env ⟨R, r, bey, p6, p7, e, q1, q2, q3, q4, q5, q6, q7, q8⟩ => by
      have hx : x ∈ E n := q8 x (by simp)
      have hnR : n ∈ R := q5 n hn
      have i1 := e_ninFD .m R r x.2.2
      have i2 := e_ixFD .m R r hnR
      have hRl := q1.len
      obtain ⟨p, sd, b⟩ := x
      simp only at i1
      by_cases hb : b ∈ R
      · refine ⟨FE A s (FD .m R r) edge (some (.lst .m (bey.map D.str))) (some (.str n)) (some (.tup [.int p, .int sd])) (some (.str b)), FE A s (FD .m R r) edge (some (.lst .m (bey.map D.str))) (some (.str n)) (some (.tup [.int p, .int sd])) (some (.str b)), by rw [e]; rfl, ?_, R, r, bey, _, _, rfl, q1, q2, q3, q4, q5, q6, fun e he => ?_, fun e he => q8 e (by simp [he])⟩
        · unfold l_far_from_1
          generalize FD .m R r = F at *
          unfold FE; simp [i1, hb]
        · rcases q7 e he with w | w
          · rcases List.mem_cons.mp w with w | w
            · subst w; exact .inr hb
            · exact .inl w
          · exact .inr w
      · have hz : bey.length < sizeLine := sz_lt (by omega)
        have i3 := st_FD (R := R) (r := r) (b := b) (x := r n + 1) (by omega) hb
        refine ⟨FE A s (FD .m R r) edge (some (.lst .m (bey.map D.str))) (some (.str n)) (some (.tup [.int p, .int sd])) (some (.str b)), FE A s (FD .m (R ++ [b]) fun a => if a = b then r n + 1 else r a) edge (some (.lst .m ((bey ++ [b]).map D.str))) (some (.str n)) (some (.tup [.int p, .int sd])) (some (.str b)), by rw [e]; rfl, ?_, R ++ [b], _, bey ++ [b], _, _, rfl, ?_, by simp; omega, fun a ha => ?_, fun a ha => ?_, fun a ha => by simp [q5 a ha], fun a ha => by simp [q6 a ha], fun e he => ?_, fun e he => q8 e (by simp [he])⟩
        · unfold l_far_from_1
          generalize (FD .m (R ++ [b]) fun a => if a = b then r n + 1 else r a) = F2 at *
          generalize FD .m R r = F at *
          unfold FE; simp [i1, hb, i2, i3, lVar, hz]
        · refine ⟨?_, fun a ha => ?_, by simp [q1.st], fun a ha => ?_⟩
          · rw [List.nodup_append]
            exact ⟨q1.nd, by simp, fun a ha c hc => by simp at hc; subst hc; exact fun e => hb (e ▸ ha)⟩
          · rcases List.mem_append.mp ha with w | w
            · exact q1.sub a w
            · have : a = b := by simpa using w
              subst this; exact hN n _ hx
          · rcases List.mem_append.mp ha with w | w
            · exact q1.con a w
            · have : a = b := by simpa using w
              subst this; exact hC n _ (q1.con n hnR) hx
        · rcases List.mem_append.mp ha with w | w
          · simp [q3 a w]
          · have : a = b := by simpa using w
            subst this; simp
        · rcases List.mem_append.mp ha with w | w
          · rcases q4 a w with u | u
            · exact .inl u
            · exact .inr (by simp [u])
          · have : a = b := by simpa using w
            subst this; exact .inr (by simp)
        · rcases q7 e he with w | w
          · rcases List.mem_cons.mp w with w | w
            · subst w; exact .inr (by simp)
            · exact .inl w
          · exact .inr (by simp [w]))
    (E n) (FE A s (FD .m R1 r1) edge (some (.lst .m (bey1.map D.str))) (some (.str n)) o6 o7) ⟨R1, r1, bey1, o6, o7, rfl, h1, hm, hb, fun a ha => .inl ha, fun a ha => ha, fun a ha => ha, fun e he => .inl he, fun e he => he⟩
  exact ⟨R, r, bey, p6, p7, f1, q1, q2, q3, q4, q5, q6, fun e he => (q7 e he).elim (fun z => nomatch z) id⟩
theorem far_mid (h : EOk ns fs E k) (hk : k ≤ 1000) (hl : ns.length ≤ 100) (hC : ∀ (a : Str) (e : Eg), C a → e ∈ E a → C e.2.2) (hN : ∀ (a : Str) (e : Eg), e ∈ E a → e.2.2 ∈ ns) {edge R1 : List Str} {r1 : Str → Int} (h1 : FI ns C s R1) (he : ∀ a ∈ edge, a ∈ R1) (hcl : ∀ a ∈ R1, a ∈ edge ∨ ∀ e : Eg, e ∈ E a → e.2.2 ∈ R1) (o5 o6 o7 : Option D) :
    ∃ R r, ∃ bey : List Str, ∃ p5 p6 p7, forRun (gSet 5) l_far_from_2 (edge.map D.str) (FE (ED .l fs E) s (FD .m R1 r1) edge (some (.lst .m [])) o5 o6 o7) = .nx (FE (ED .l fs E) s (FD .m R r) edge (some (.lst .m (bey.map D.str))) p5 p6 p7) ∧ FI ns C s R ∧ R.length = R1.length + bey.length ∧ (∀ a ∈ bey, a ∈ R) ∧ ∀ a ∈ R, a ∈ bey ∨ ∀ e : Eg, e ∈ E a → e.2.2 ∈ R := by
  obtain ⟨env', f1, R, r, bey, p5, p6, p7, rfl, q1, q2, q3, q4, q5⟩ := for_inv (f := D.str) (g := gSet 5) (body := l_far_from_2)
    (fun rest env => ∃ R r, ∃ bey : List Str, ∃ p5 p6 p7, env = FE (ED .l fs E) s (FD .m R r) edge (some (.lst .m (bey.map D.str))) p5 p6 p7 ∧ FI ns C s R ∧ R.length = R1.length + bey.length ∧ (∀ a ∈ bey, a ∈ R) ∧ (∀ a ∈ R, a ∈ rest ∨ a ∈ bey ∨ ∀ e : Eg, e ∈ E a → e.2.2 ∈ R) ∧ ∀ a ∈ rest, a ∈ R)
    (fun n rest env ⟨R, r, bey, p5, p6, p7, e, q1, q2, q3, q4, q5⟩ => by
      have hn : n ∈ R := q5 n (by simp)
      obtain ⟨R', r', bey', p6', p7', g1, g2, g3, g4, g5, g6, g7, g8⟩ := far_in (r1 := r) hl hC hN (ED .l fs E) edge n q1 hn q2 q3 p6 p7
      obtain ⟨g, e1⟩ := e_edges h n
      have hd : isDct (ED .l fs E) = true := rfl
      have im : imms ((E n).map eT) = true := imms_map (f := eT) (fun _ => rfl) (E n)
      refine ⟨FE (ED .l fs E) s (FD .m R r) edge (some (.lst .m (bey.map D.str))) (some (.str n)) p6 p7, FE (ED .l fs E) s (FD .m R' r') edge (some (.lst .m (bey'.map D.str))) (some (.str n)) p6' p7', by rw [e]; rfl, ?_, R', r', bey', _, _, _, rfl, g2, g3, g4, fun a ha => ?_, fun a ha => g6 a (q5 a (by simp [ha]))⟩
      · unfold l_far_from_2
        generalize ED .l fs E = A at *
        generalize FD .m R r = F at *
        generalize FD .m R' r' = F' at *
        unfold FE at *
        simp [hd, e1, im, g1]
      · rcases g5 a ha with w | w
        · rcases q4 a w with u | u | u
          · rcases List.mem_cons.mp u with u | u
            · subst u; exact .inr (.inr g8)
            · exact .inl u
          · exact .inr (.inl (g7 a u))
          · exact .inr (.inr fun e he => g6 _ (u e he))
        · exact .inr (.inl w))
    edge (FE (ED .l fs E) s (FD .m R1 r1) edge (some (.lst .m [])) o5 o6 o7) ⟨R1, r1, [], o5, o6, o7, rfl, h1, by simp, by simp, fun a ha => (hcl a ha).elim .inl fun z => .inr (.inr z), he⟩
  exact ⟨R, r, bey, p5, p6, p7, f1, q1, q2, q3, fun a ha => (q4 a ha).elim (fun z => nomatch z) id⟩
theorem v_far (h : EOk ns fs E k) (hk : k ≤ 1000) (hl : ns.length ≤ 100) (hs : s ∈ ns) (h0 : C s) (hC : ∀ (a : Str) (e : Eg), C a → e ∈ E a → C e.2.2) (hN : ∀ (a : Str) (e : Eg), e ∈ E a → e.2.2 ∈ ns) :
    ∃ R r, φ_far_from [ED .l fs E, .str s] = .ok (FD .m R r) [] ∧ FI ns C s R ∧ ∀ a ∈ R, ∀ e : Eg, e ∈ E a → e.2.2 ∈ R := by
  obtain ⟨env', f1, R, r, o4, o5, o6, o7, rfl, q1, q2⟩ := wh_inv (ct := l_far_from_4) (body := l_far_from_3)
    (P := fun m env => ∃ R r edge o4 o5 o6 o7, env = FE (ED .l fs E) s (FD .m R r) edge o4 o5 o6 o7 ∧ FI ns C s R ∧ (∀ a ∈ edge, a ∈ R) ∧ (∀ a ∈ R, a ∈ edge ∨ ∀ e : Eg, e ∈ E a → e.2.2 ∈ R) ∧ 2 * (ns.length - R.length) + (if edge = [] then 0 else 1) ≤ m)
    (Q := fun env => ∃ R r o4 o5 o6 o7, env = FE (ED .l fs E) s (FD .m R r) [] o4 o5 o6 o7 ∧ FI ns C s R ∧ ∀ a ∈ R, ∀ e : Eg, e ∈ E a → e.2.2 ∈ R)
    (fun m env ⟨R, r, edge, o4, o5, o6, o7, e, q1, q2, q3, q4⟩ => by
      by_cases he : edge = []
      · left
        subst he
        refine ⟨env, ?_, R, r, o4, o5, o6, o7, e, q1, fun a ha => (q3 a ha).elim (fun z => nomatch z) id⟩
        rw [e]; unfold l_far_from_4 FE; simp
      · right
        rw [if_neg he] at q4
        obtain ⟨R', r', bey, p5, p6, p7, g1, g2, g3, g4, g5⟩ := far_mid (r1 := r) h hk hl hC hN q1 q2 q3 o5 o6 o7
        have hp : 0 < edge.length := List.length_pos_iff.mpr he
        have hRl := g2.len
        refine ⟨m - 1, env, FE (ED .l fs E) s (FD .m R' r') bey none p5 p6 p7, by omega, ?_, ?_, R', r', bey, none, p5, p6, p7, rfl, g2, g4, g5, ?_⟩
        · rw [e]; unfold l_far_from_4 FE; simp [hp]
        · rw [e]
          unfold l_far_from_3
          generalize ED .l fs E = A at *
          generalize FD .m R r = F at *
          generalize FD .m R' r' = F' at *
          refine seq_nx (env1 := FE A s F edge (some (.lst .m [])) o5 o6 o7) (by unfold FE; simp) ?_
          refine seq_nx (env1 := FE A s F' edge (some (.lst .m (bey.map D.str))) p5 p6 p7) (by unfold FE at *; simp [g1]) ?_
          unfold FE; simp
        · by_cases hb : bey = []
          · rw [if_pos hb]; omega
          · rw [if_neg hb]
            have : 0 < bey.length := List.length_pos_iff.mpr hb
            omega)
    (2 * ns.length + 1) 100000 (FE (ED .l fs E) s (FD .m [s] fun _ => 0) [s] none none none none) (by omega)
    ⟨[s], fun _ => 0, [s], none, none, none, none, rfl, ⟨by simp, fun n hn => by simp at hn; rw [hn]; exact hs, by simp, fun n hn => by simp at hn; rw [hn]; exact h0⟩, by simp, by simp, by simp; omega⟩
  refine ⟨R, r, ?_, q1, q2⟩
  refine fn_rt (env0 := [some (ED .l fs E), some (.str s), none, none, none, none, none, none]) (env := (FE (ED .l fs E) s (FD .m R r) [] o4 o5 o6 o7).set 2 none) ⟨rfl, by decide⟩ rfl ?_ (by rfl)
  unfold b_far_from
  refine seq_nx (env1 := [some (ED .l fs E), some (.str s), some (FD .m [s] fun _ => 0), none, none, none, none, none]) (by unfold FD; simp [D.key]) ?_
  refine seq_nx (env1 := FE (ED .l fs E) s (FD .m [s] fun _ => 0) [s] none none none none) (by unfold FE; simp) ?_
  refine seq_nx (env1 := FE (ED .l fs E) s (FD .m R r) [] o4 o5 o6 o7) ?_ ?_
  · rw [e_while]; exact f1
  · have im : (FD .m R r).imm = false := rfl
    generalize FD .m R r = F at *
    unfold FE; simp [im]
end
/-- a joining that leads across, but one -/
def XA (js : List Jn) (R : List Str) (n i : Nat) : Prop := i ≠ n ∧ ∃ j : Jn, js[i]? = some j ∧ ¬ (j.1 ∈ R ↔ j.2.1 ∈ R)
theorem v_across {js : List Jn} {d0 : D} (hd : Hold jt js d0) (n : Nat) (R : List Str) (r : Str → Int) :
    (∃ i, φ_first_across [d0, nI n, FD .l R r] = .ok (nI i) [] ∧ XA js R n i ∧ ∀ m, m < i → ¬ XA js R n m) ∨ (φ_first_across [d0, nI n, FD .l R r] = .ok .non [] ∧ ∀ i, ¬ XA js R n i) := by
  have hnum := numD_mp jt 0 js
  have hi := e_inFD .l R r
  generalize hF : FD .l R r = F at *
  have hloop := for_may (f := fun p : Jn × Nat => D.tup [.int (p.2 : Nat), jt p.1]) (g := gTupD 2 (gConsD (gSet 3) (gConsD (gTupD 3 (gConsD (gSet 4) (gConsD (gSet 5) (gConsD (gSet 6) gNilD)))) gNilD))) (body := l_first_across_1)
    (fun rest env => ∃ k o3 o4 o5 o6, rest = (js.drop k).zipIdx k ∧ k ≤ js.length ∧ env = [some d0, some (nI n), some F, o3, o4, o5, o6] ∧ ∀ m, m < k → ¬ XA js R n m)
    (fun x env => ∃ i o3 o4 o5 o6, x = nI i ∧ env = [some d0, some (nI n), some F, o3, o4, o5, o6] ∧ XA js R n i ∧ ∀ m, m < i → ¬ XA js R n m)
    (fun p rest env ⟨k, o3, o4, o5, o6, e1, hk, e2, hno⟩ => by
      have hk' : k < js.length := by
        refine Nat.lt_of_not_le fun z => ?_
        have : js.drop k = [] := List.drop_eq_nil_of_le z
        rw [this] at e1; simp at e1
      have ed : js.drop k = js[k] :: js.drop (k + 1) := List.drop_eq_getElem_cons hk'
      rw [ed, List.zipIdx_cons] at e1
      obtain ⟨rfl, rfl⟩ := List.cons.inj e1
      have eg : js[k]? = some js[k] := List.getElem?_eq_getElem hk'
      generalize hjk : js[k] = j at *
      obtain ⟨x, y, z⟩ := j
      refine ⟨[some d0, some (nI n), some F, some (nI k), some (.str x), some (.str y), some (.int z)], by rw [e2]; rfl, ?_⟩
      have next : ¬ XA js R n k → ∀ m, m < k + 1 → ¬ XA js R n m := fun h m hm => by
        rcases Nat.lt_or_ge m k with w | w
        · exact hno m w
        · have : m = k := by omega
          rw [this]; exact h
      by_cases hx : XA js R n k
      · right
        refine ⟨nI k, [some d0, some (nI n), some F, some (nI k), some (.str x), some (.str y), some (.int z)], ?_, k, _, _, _, _, rfl, rfl, hx, hno⟩
        obtain ⟨h1, j, h2, h3⟩ := hx
        rw [eg] at h2; cases h2
        simp only at h3
        have h1' : ¬ (k : Int) = n := by omega
        unfold l_first_across_1
        by_cases a : x ∈ R <;> by_cases b : y ∈ R
        · exact absurd ⟨fun _ => b, fun _ => a⟩ h3
        · simp [nI, h1', hi, a, b]
        · simp [nI, h1', hi, a, b]
        · exact absurd ⟨fun w => absurd w a, fun w => absurd w b⟩ h3
      · left
        refine ⟨[some d0, some (nI n), some F, some (nI k), some (.str x), some (.str y), some (.int z)], ?_, k + 1, _, _, _, _, rfl, hk', rfl, next hx⟩
        unfold l_first_across_1
        by_cases hkn : k = n
        · subst hkn; simp [nI]
        · have h1' : ¬ (k : Int) = n := by omega
          have h3 : (x ∈ R ↔ y ∈ R) := Classical.byContradiction fun w => hx ⟨hkn, _, eg, w⟩
          by_cases a : x ∈ R
          · have b := h3.mp a
            simp [nI, h1', hi, a, b]
          · have b : y ∉ R := fun w => a (h3.mpr w)
            simp [nI, h1', hi, a, b])
    js.zipIdx [some d0, some (nI n), some F, none, none, none, none] ⟨0, none, none, none, none, by simp, Nat.zero_le _, rfl, fun m hm => absurd hm (Nat.not_lt_zero m)⟩
  rcases hloop with ⟨env', f1, k, o3, o4, o5, o6, e1, hk, rfl, hno⟩ | ⟨x, env', f1, i, o3, o4, o5, o6, rfl, rfl, h1, h2⟩
  · right
    have hkl : k = js.length := by
      have := congrArg List.length e1
      simp at this; omega
    subst hkl
    refine ⟨?_, fun i hx => ?_⟩
    · refine fn_rt (env0 := [some d0, some (nI n), some F, none, none, none, none]) (env := [some d0, some (nI n), some F, o3, o4, o5, o6]) ⟨rfl, by decide⟩ rfl ?_ (by rfl)
      unfold b_first_across
      refine seq_nx (env1 := [some d0, some (nI n), some F, o3, o4, o5, o6]) ?_ (by simp)
      cases hd <;> simp [hnum, f1]
    · obtain ⟨_, j, e, _⟩ := id hx
      exact hno i (List.getElem?_eq_some_iff.mp e).1 hx
  · left
    refine ⟨i, ?_, h1, h2⟩
    refine fn_rt (env0 := [some d0, some (nI n), some F, none, none, none, none]) (env := [some d0, some (nI n), some F, o3, o4, o5, o6]) ⟨rfl, by decide⟩ rfl ?_ (by rfl)
    unfold b_first_across
    rw [e_seq]
    have : (sFor (iEnumG (cVar 0)) (gTupD 2 (gConsD (gSet 3) (gConsD (gTupD 3 (gConsD (gSet 4) (gConsD (gSet 5) (gConsD (gSet 6) gNilD)))) gNilD))) l_first_across_1) [some d0, some (nI n), some F, none, none, none, none] = .rt (nI i) [some d0, some (nI n), some F, o3, o4, o5, o6] := by
      cases hd <;> simp [hnum, f1]
    rw [this]; rfl
end VS

set_option maxRecDepth 100000
set_option maxHeartbeats 0
namespace VS
open PySem L2 SeqAt
theorem eqOks_nI (n : Nat) : ∀ l : List Nat, eqOks (n + 1) (l.map nI) = true
  | [] => rfl
  | j :: l => by
    have := eqOks_nI n l
    simp only [List.map_cons, eqOks, this, Bool.and_true]; rfl
theorem any_nI (n : Nat) : ∀ l : List Nat, ((l.map nI).any fun d => pyEq d (nI n)) = decide (n ∈ l)
  | [] => rfl
  | j :: l => by
    rw [List.map_cons, List.any_cons, any_nI n l]
    have : pyEq (nI j) (nI n) = decide (j = n) := by
      unfold nI pyEq
      rw [Bool.eq_iff_iff]; simp
      constructor <;> intro h <;> omega
    rw [this]
    by_cases h : j = n
    · subst h; simp
    · have h' : ¬ n = j := fun z => h z.symm
      simp [h, h']
theorem in_nI (g : Fl) (n : Nat) (l : List Nat) : pIn (nI n) (.lst g (l.map nI)) = some (.bl (decide (n ∈ l))) := by
  show (if eqOk 40 (nI n) && eqOks 40 (l.map nI) then some ((l.map nI).any fun d => pyEq d (nI n)) else none).map D.bl = _
  rw [eqOks_nI 39, any_nI]
  rfl
theorem nin_nI (g : Fl) (n : Nat) (l : List Nat) : pNotIn (nI n) (.lst g (l.map nI)) = some (.bl (!decide (n ∈ l))) := by
  show (if eqOk 40 (nI n) && eqOks 40 (l.map nI) then some ((l.map nI).any fun d => pyEq d (nI n)) else none).map (fun b => D.bl (!b)) = _
  rw [eqOks_nI 39, any_nI]
  rfl
theorem inW_nI (g : Fl) (n : Nat) (l : List Nat) : pInW (nI n) (.lst g (l.map nI)) = some (.bl (decide (n ∈ l))) := by
  have h := in_nI g n l
  show orP2 pInS pIn (nI n) (.lst g (l.map nI)) = _
  have h0 : pInS (nI n) (.lst g (l.map nI)) = none := rfl
  unfold orP2
  rw [h0]; exact h
theorem lends_eT : ∀ l : List Eg, lends (l.map eT) = l.map eT
  | [] => rfl
  | e :: l => by rw [List.map_cons]; show (eT e).lend :: lends (l.map eT) = _; rw [lends_eT l]; rfl
theorem lend_ED (fs : List Str) (E : Str → List Eg) : (ED .m fs E).lend = ED .l fs E := by
  unfold ED
  rw [e_lend8]
  congr 1
  induction fs with
  | nil => rfl
  | cons a fs ih => rw [List.map_cons, List.map_cons, e_lends1, ih]; congr 1; rw [e_lend6, lends_eT]
theorem lend_FD (R : List Str) (r : Str → Int) : (FD .m R r).lend = FD .l R r := by
  unfold FD
  rw [e_lend8]
  congr 1
  induction R with
  | nil => rfl
  | cons a fs ih => rw [List.map_cons, e_lends1, ih]; rfl
theorem lends_nI : ∀ l : List Nat, lends (l.map nI) = l.map nI
  | [] => rfl
  | e :: l => by rw [List.map_cons]; show (nI e).lend :: lends (l.map nI) = _; rw [lends_nI l]; rfl
theorem nols_nI : ∀ l : List Nat, nols (l.map nI) = true
  | [] => rfl
  | e :: l => by rw [List.map_cons]; show ((nI e).nol && nols (l.map nI)) = true; rw [nols_nI l]; rfl
theorem nols_eT : ∀ l : List Eg, nols (l.map eT) = true
  | [] => rfl
  | e :: l => by rw [List.map_cons]; show ((eT e).nol && nols (l.map eT)) = true; rw [nols_eT l]; rfl
theorem nol_ED (fs : List Str) (E : Str → List Eg) : (ED .m fs E).nol = true := by
  show ((Fl.m == .m || Fl.m == .f) && nols (fs.map fun a => D.lst .m ((E a).map eT))) = true
  have : nols (fs.map fun a => D.lst .m ((E a).map eT)) = true := by
    induction fs with
    | nil => rfl
    | cons a fs ih =>
      rw [List.map_cons]
      show (((Fl.m == .m || Fl.m == .f) && nols ((E a).map eT)) && nols (fs.map fun a => D.lst .m ((E a).map eT))) = true
      rw [ih, nols_eT]; rfl
  rw [this]; rfl
theorem nol_FD (R : List Str) (r : Str → Int) : (FD .m R r).nol = true := by
  show ((Fl.m == .m || Fl.m == .f) && nols (R.map fun a => D.int (r a))) = true
  have : nols (R.map fun a => D.int (r a)) = true := by
    induction R with
    | nil => rfl
    | cons a fs ih =>
      rw [List.map_cons]
      show ((D.int (r a)).nol && nols (fs.map fun a => D.int (r a))) = true
      rw [ih]; rfl
  rw [this]; rfl
theorem imms_nI (l : List Nat) : imms (l.map nI) = true := imms_map (f := nI) (fun _ => rfl) l
theorem hs_mem {js : List Jn} {k i : Nat} : i ∈ hs js k ↔ i < k ∧ hB js i = true := by unfold hs; simp
section
variable {ns : List Str} {js : List Jn} {dn dj : D} {n : Nat} {jn : Jn}
/-- the first that leads across where the n-th is left out -/
def FX (js : List Jn) (n : Nat) (a : Str) (i : Nat) : Prop := i ≠ n ∧ Cross js n a i ∧ ∀ m, m < i → m ≠ n → ¬ Cross js n a m
theorem v_in_place (hd : Hold jt js dj) (hj : JOk ns js) (hl : ns.length ≤ 100) (hjl : js.length ≤ 300) (hn : js[n]? = some jn) :
    (∃ i, φ_in_place [dj, .lst .l ((hs js js.length).map nI), nI n] = .ok (nI i) [] ∧ FX js n jn.1 i) ∨ (φ_in_place [dj, .lst .l ((hs js js.length).map nI), nI n] = .ok .non [] ∧ ∀ i, i ≠ n → ¬ Cross js n jn.1 i) := by
  have hnl : n < js.length := (List.getElem?_eq_some_iff.mp hn).1
  have hmem : jn ∈ js := List.mem_of_getElem? hn
  let num := (hs js js.length).filter fun i => decide (i ≠ n)
  have hnum : ∀ i, i ∈ num ↔ i < js.length ∧ hBx js n i = true := fun i => by
    show i ∈ (hs js js.length).filter _ ↔ _
    rw [List.mem_filter, hs_mem]
    simp [hBx, and_assoc]
  have hll : (hs js js.length).length ≤ 300 := by
    have := List.length_filter_le (hB js) (List.range js.length)
    rw [List.length_range] at this
    show ((List.range js.length).filter (hB js)).length ≤ 300
    omega
  have hnn : num.length ≤ 400 := by
    have := List.length_filter_le (fun i => decide (i ≠ n)) (hs js js.length)
    show ((hs js js.length).filter _).length ≤ 400
    omega
  obtain ⟨fs, E, v1, ok, ad⟩ := v_edges hd hj hl (num := num) (fun i hi => ((hnum i).mp hi).1) hnn
  have hstep : ∀ (a : Str) (e : Eg), e ∈ E a → ∃ i, i < js.length ∧ hBx js n i = true ∧ ∃ j : Jn, js[i]? = some j ∧ ((a = j.1 ∧ e.2.2 = j.2.1) ∨ (a = j.2.1 ∧ e.2.2 = j.1)) := fun a e he => by
    obtain ⟨i, hi, j, e1, _, e2⟩ := (ad a e.2.2).mp ⟨e.1, e.2.1, he⟩
    have := (hnum i).mp hi
    exact ⟨i, this.1, this.2, j, e1, e2⟩
  obtain ⟨R, r, v2, fi, cl⟩ := v_far (C := fun a => Conn (sel js (hBx js n) js.length) jn.1 a) ok (by omega) hl (hj.one _ hmem) (.refl _) (fun a e hc he => by
    obtain ⟨i, h1, h2, j, e1, e2⟩ := hstep a e he
    have c := one_conn (js := js) e1 h1 h2
    rcases e2 with ⟨q1, q2⟩ | ⟨q1, q2⟩
    · rw [q2]; rw [q1] at hc; exact hc.trans c
    · rw [q2]; rw [q1] at hc; exact hc.trans c.symm) (fun a e he => by
    obtain ⟨i, h1, h2, j, e1, e2⟩ := hstep a e he
    have m : j ∈ js := List.mem_of_getElem? e1
    rcases e2 with ⟨q1, q2⟩ | ⟨q1, q2⟩
    · rw [q2]; exact hj.other _ m
    · rw [q2]; exact hj.one _ m)
  have full : ∀ {x y : Str}, Conn (sel js (hBx js n) js.length) x y → x ∈ R → y ∈ R := by
    rintro x y ⟨o, rr⟩ hx
    have one : ∀ {a b : Str} {s : Int}, (a, b, s) ∈ sel js (hBx js n) js.length → (a ∈ R ↔ b ∈ R) := fun {a b s} m => by
      obtain ⟨i, h1, h2, h3⟩ := sel_mem.mp m
      by_cases hab : a = b
      · rw [hab]
      · have hin := (hnum i).mpr ⟨h1, h3⟩
        constructor
        · intro ha
          obtain ⟨p, s', he⟩ := (ad a b).mpr ⟨i, hin, _, h2, hab, .inl ⟨rfl, rfl⟩⟩
          exact cl a ha _ he
        · intro hb
          obtain ⟨p, s', he⟩ := (ad b a).mpr ⟨i, hin, _, h2, hab, .inr ⟨rfl, rfl⟩⟩
          exact cl b hb _ he
    induction rr with
    | refl => exact hx
    | fwd _ m ih => exact (one m).mp ih
    | bwd _ m ih => exact (one m).mpr ih
  have hR : ∀ x, x ∈ R ↔ Conn (sel js (hBx js n) js.length) jn.1 x := fun x => ⟨fi.con x, fun c => full c fi.st⟩
  have hX : ∀ i, XA js R n i ↔ i ≠ n ∧ Cross js n jn.1 i := fun i => by
    unfold XA Cross
    simp only [hR]
  have run : ∀ d : D, d.nol = true → φ_first_across [dj, nI n, FD .l R r] = .ok d [] → φ_in_place [dj, .lst .l ((hs js js.length).map nI), nI n] = .ok d [] := fun d hdn hfa => by
    have n1 := nol_ED fs E
    have n2 := nol_FD R r
    have hc := lc_flt (f := nI) (vs := [4]) (g := gSet 4) (ct := cTt (c2 pNe (cVar 4) (cVar 2))) (ce := cGet 4) (env := [some dj, some (.lst .l ((hs js js.length).map nI)), some (nI n), none, none]) (y := nI) (t := fun i => decide (i ≠ n)) (xs := hs js js.length)
      (fun i _ => ⟨[some dj, some (.lst .l ((hs js js.length).map nI)), some (nI n), none, some (nI i)], rfl, rfl, by
        by_cases z : i = n
        · subst z; simp [nI]
        · have : ¬ (i : Int) = n := by omega
          simp [nI, z, this], fun _ => by simp [nI], rfl⟩)
    have hi := imms_nI (hs js js.length)
    have hz : (hs js js.length).length ≤ sizeLine := sz_ok (by omega)
    have hln := lends_nI num
    have hle := lend_ED fs E
    have hlf := lend_FD R r
    have at0 : atI (js.map jt) (n : Int) = some (jt jn) := by
      rw [atI_nat (by simpa using hnl)]
      simp [hn]
    have j0 : jt jn = .tup [.str jn.1, .str jn.2.1, .int jn.2.2] := rfl
    have hat : ixD dj (nI n) = some (jt jn) := by
      cases hd <;> exact at0
    have at1 : ixD (jt jn) (.int 0) = some (.str jn.1) := rfl
    have hnm : (hs js js.length).filter (fun i => decide (i ≠ n)) = num := rfl
    rw [hnm] at hc
    have hld : dj.lend = dj := by cases hd <;> simp
    generalize hs js js.length = HH at *
    generalize ED .m fs E = A at *
    generalize ED .l fs E = A1 at *
    generalize FD .m R r = F at *
    generalize FD .l R r = F1 at *
    generalize jt jn = J at *
    clear_value num
    refine fn_rt (env0 := [some dj, some (.lst .l (HH.map nI)), some (nI n), none, none]) (env := [some dj, some (.lst .l (HH.map nI)), some (nI n), some (.lst .m (num.map nI)), none]) ⟨rfl, by decide⟩ rfl ?_ (by rfl)
    unfold b_in_place
    refine seq_nx (env1 := [some dj, some (.lst .l (HH.map nI)), some (nI n), some (.lst .m (num.map nI)), none]) ?_ ?_
    · simp [hc, hi, hz]
    · simp [hld, hln, v1, hle, hat, at1, v2, hlf, hfa, n1, n2, hdn, show (nI n).lend = nI n from rfl]
  rcases v_across hd n R r with ⟨i, e, h1, h2⟩ | ⟨e, h⟩
  · left
    refine ⟨i, run _ rfl e, ((hX i).mp h1).1, ((hX i).mp h1).2, fun m hm hmn hc => h2 m hm ((hX m).mpr ⟨hmn, hc⟩)⟩
  · right
    exact ⟨run _ rfl e, fun i hi hc => h i ((hX i).mpr ⟨hi, hc⟩)⟩
end
end VS

set_option maxRecDepth 100000
set_option maxHeartbeats 0
namespace VS
open PySem L2 SeqAt
theorem int_short {i : Int} (h1 : -10000000000000 ≤ i) (h2 : i ≤ 10000000000000) : (PyData.int i).leavesShort 24 = true ∧ (PyData.int i).showable = true ∧ (PyData.int i).weight ≤ 64 := by
  have hn : i.natAbs ≤ 10000000000000 := by omega
  have hl : i.natAbs.log2 < 44 := by
    by_cases h0 : i.natAbs = 0
    · rw [h0]; decide
    · exact (Nat.log2_lt h0).mpr (by omega)
  refine ⟨?_, ?_, ?_⟩
  · have e := int_text_length_le10 (a := i) (k := 14) (by decide) (by omega)
    have : (PyData.shown (.int i)).length = (toString i).length := ofString_length _
    simp only [PyData.leavesShort, decide_eq_true_eq]
    omega
  · simp only [PyData.showable, decide_eq_true_eq]; omega
  · simp only [PyData.weight]; split <;> omega
/-! ### one left out -/
theorem cut_to (xs : List D) {k : Int} (h0 : 0 ≤ k) (h1 : k ≤ xs.length) : cutD xs none (some k) = xs.take k.toNat := by
  have e2 : HT.sIx xs.length xs.length (some k) = k.toNat := by unfold HT.sIx; simp only; rw [if_neg (by omega)]; omega
  unfold cutD
  simp [HT.sIx_none, e2]
theorem cut_from (xs : List D) {k : Int} (h0 : 0 ≤ k) (h1 : k ≤ xs.length) : cutD xs (some k) none = xs.drop k.toNat := by
  have e2 : HT.sIx xs.length 0 (some k) = k.toNat := by unfold HT.sIx; simp only; rw [if_neg (by omega)]; omega
  unfold cutD
  simp [HT.sIx_none, e2]
  rw [List.take_of_length_le (by simp)]
/-- the list without its n-th -/
def lo (js : List Jn) (n : Nat) : List Jn := js.take n ++ js.drop (n + 1)
/-- the number it had ahead -/
def upk (n k : Nat) : Nat := if n ≤ k then k + 1 else k
/-- the numbers of those that hold without the n-th -/
noncomputable def lft (js : List Jn) (n : Nat) : List Nat := (hs (lo js n) (lo js n).length).map (upk n)
section
variable {ns : List Str} {js : List Jn} {n : Nat} {jn : Jn}
theorem lo_len (hn : n < js.length) : (lo js n).length = js.length - 1 := by unfold lo; simp; omega
theorem lo_at (hn : n < js.length) (k : Nat) : (lo js n)[k]? = js[upk n k]? := by
  unfold lo upk
  by_cases h : n ≤ k
  · rw [if_pos h, List.getElem?_append_right (by simp; omega), List.getElem?_drop]
    congr 1
    simp; omega
  · rw [if_neg h, List.getElem?_append_left (by simp; omega), List.getElem?_take_of_lt (by omega)]
theorem JOk.drop1 (hj : JOk ns js) (n : Nat) : JOk ns (VS.lo js n) := by
  have sub : ∀ j ∈ VS.lo js n, j ∈ js := fun j h => by
    rcases List.mem_append.mp h with q | q
    · exact List.mem_of_mem_take q
    · exact List.mem_of_mem_drop q
  exact ⟨fun j h => hj.one j (sub j h), fun j h => hj.other j (sub j h), fun j h => hj.lo j (sub j h), fun j h => hj.hi j (sub j h)⟩
theorem upk_ne (n k : Nat) : upk n k ≠ n := by unfold upk; split <;> omega
theorem upk_lt {n a b : Nat} (h : a < b) : upk n a < upk n b := by unfold upk; split <;> split <;> omega
theorem upk_onto {n i : Nat} (h : i ≠ n) : ∃ k, upk n k = i := by
  by_cases z : i < n
  · exact ⟨i, by unfold upk; rw [if_neg (by omega)]⟩
  · exact ⟨i - 1, by unfold upk; rw [if_pos (by omega)]; omega⟩
theorem lo_conn (hn : n < js.length) (k : Nat) {a b : Str} : Conn (sel (lo js n) allB k) a b ↔ Conn (sel js (exB n) (upk n k)) a b := by
  constructor
  · intro h
    refine h.mono fun j hj => ?_
    obtain ⟨i, h1, h2, _⟩ := sel_mem.mp hj
    rw [lo_at hn] at h2
    exact sel_mem.mpr ⟨upk n i, upk_lt h1, h2, by simp [exB, upk_ne]⟩
  · intro h
    refine h.mono fun j hj => ?_
    obtain ⟨i, h1, h2, h3⟩ := sel_mem.mp hj
    have hi : i ≠ n := by simpa [exB] using h3
    obtain ⟨m, rfl⟩ := upk_onto hi
    have hm : m < k := by
      refine Nat.lt_of_not_le fun z => ?_
      rcases Nat.lt_or_eq_of_le z with w | w
      · have := upk_lt (n := n) w; omega
      · subst w; omega
    exact sel_mem.mpr ⟨m, hm, by rw [lo_at hn]; exact h2, rfl⟩
theorem mem_lft (hn : n < js.length) {i : Nat} : i ∈ lft js n ↔ i ≠ n ∧ ∃ j : Jn, js[i]? = some j ∧ ¬ Conn (sel js (exB n) i) j.1 j.2.1 := by
  unfold lft
  rw [List.mem_map]
  constructor
  · rintro ⟨k, hk, rfl⟩
    obtain ⟨h1, h2⟩ := hs_mem.mp hk
    obtain ⟨j, e, hc⟩ := hB_t.mp h2
    rw [lo_at hn] at e
    exact ⟨upk_ne n k, j, e, fun z => hc ((lo_conn hn k).mpr z)⟩
  · rintro ⟨hi, j, e, hc⟩
    obtain ⟨k, rfl⟩ := upk_onto hi
    have e' : (lo js n)[k]? = some j := by rw [lo_at hn]; exact e
    exact ⟨k, hs_mem.mpr ⟨(List.getElem?_eq_some_iff.mp e').1, hB_t.mpr ⟨j, e', fun z => hc ((lo_conn hn k).mp z)⟩⟩, rfl⟩
theorem lft_pw (js : List Jn) (n : Nat) : (lft js n).Pairwise (· < ·) := by
  unfold lft hs
  refine List.Pairwise.map _ (fun a b h => upk_lt h) ?_
  exact (List.pairwise_lt_range).filter _
theorem hs_pw (js : List Jn) (k : Nat) : (hs js k).Pairwise (· < ·) := (List.pairwise_lt_range).filter _
/-- the n-th holds: the others that hold, and the one in its place -/
theorem lft_held (hn : js[n]? = some jn) (hh : hB js n = true) {i : Nat} : i ∈ lft js n ↔ (i ∈ hs js js.length ∧ i ≠ n) ∨ FX js n jn.1 i := by
  have hnl : n < js.length := (List.getElem?_eq_some_iff.mp hn).1
  rw [mem_lft hnl, hs_mem]
  constructor
  · rintro ⟨hi, j, e, hc⟩
    rcases (held_without hn hh hi e).mp hc with q | ⟨q1, q2⟩
    · exact .inl ⟨⟨(List.getElem?_eq_some_iff.mp e).1, q⟩, hi⟩
    · exact .inr ⟨hi, q1, q2⟩
  · rintro (⟨⟨h1, h2⟩, hi⟩ | ⟨hi, q1, q2⟩)
    · have e : js[i]? = some js[i] := List.getElem?_eq_getElem h1
      exact ⟨hi, _, e, (held_without hn hh hi e).mpr (.inl h2)⟩
    · obtain ⟨j, e, _⟩ := id q1
      exact ⟨hi, j, e, (held_without hn hh hi e).mpr (.inr ⟨q1, q2⟩)⟩
theorem FX_unheld (hn : js[n]? = some jn) {i : Nat} (h : FX js n jn.1 i) : i ∉ hs js js.length := fun z => by
  have := (cross_not hn h.2.1 h.1).1
  rw [(hs_mem.mp z).2] at this; cases this
theorem FX_one {a : Str} {i k : Nat} (h : FX js n a i) (h' : FX js n a k) : i = k := by
  rcases Nat.lt_trichotomy i k with w | w | w
  · exact absurd h.2.1 (h'.2.2 i w h.1)
  · exact w
  · exact absurd h'.2.1 (h.2.2 k w h'.1)
end
theorem leD_nat (a b : Nat) : leD (nI a) (nI b) = decide (a ≤ b) := by
  show (!PyProof.Rows.lexLt PyProof.Rows.itemOrd [Sum.inl (b : Int)] [Sum.inl (a : Int)]) = _
  rw [PySem.W.lex_one]
  show (!decide ((b : Int) < a)) = _
  by_cases h : a ≤ b
  · have : ¬ (b : Int) < a := by omega
    simp [h, this]
  · have : (b : Int) < a := by omega
    simp [h, this]
theorem pys_nI : ∀ l : List Nat, pys (l.map nI) = some (l.map fun i => PyData.int (i : Nat))
  | [] => rfl
  | i :: l => by rw [List.map_cons, pys, pys_nI l]; rfl
theorem pyO_nI (i : Nat) : pyO (nI i) = .int (i : Nat) := rfl
theorem sortOk_nI {l : List Nat} (h : l.length ≤ 1000) : sortOk (l.map nI) = true := by
  unfold sortOk
  simp only [Bool.and_eq_true]
  refine ⟨⟨⟨⟨⟨by rw [pys_nI]; rfl, imms_nI l⟩, ?_⟩, ?_⟩, ?_⟩, by simpa using sz_ok h⟩
  · simp [alikeB, pyO_nI, PySem.W.alike]
  · simp [sortableB, pyO_nI]
  · simp [shallowB, pyO_nI, PyData.depth]
/-- a rising list is what any list of the same numbers is sorted to -/
theorem sort_nI {g : Fl} {l m : List Nat} (hp : l.Perm m) (hm : m.Pairwise (· < ·)) (h : l.length ≤ 1000) : pSortedG [.lst g (l.map nI)] = some (.lst .m (m.map nI)) := by
  unfold pSortedG
  simp only [collD, Option.bind_some, sortOk_nI h, if_true]
  rw [← List.map_mergeSort (f := nI) (r := fun a b => decide (a ≤ b)) (s := leD) fun a _ b _ => (leD_nat a b).symm]
  have h3 : (l.mergeSort fun a b => decide (a ≤ b)).Pairwise (· ≤ ·) := by
    have := List.pairwise_mergeSort (le := fun a b : Nat => decide (a ≤ b)) (fun a b c h1 h2 => by simp at *; omega) (fun a b => by simp; omega) l
    exact this.imp fun h => by simpa using h
  have := List.Perm.eq_of_pairwise (le := (· ≤ ·)) (fun a b _ _ h1 h2 => by omega) h3 (hm.imp fun h => by omega) ((List.mergeSort_perm _ _).trans hp)
  rw [this]
theorem repr_int {i : Int} (h1 : -10000000000000 ≤ i) (h2 : i ≤ 10000000000000) : ∃ s, pRepr [.int i] = some (.str s) := by
  obtain ⟨a, b, c⟩ := int_short h1 h2
  have ok : shOk (.int i) = true := by
    have hs : (PyData.int i).shown.length ≤ sizeLine := by
      have h := PyData.shown_le 24 (by decide) _ a
      rw [sizeLine_eq]; omega
    unfold shOk; rw [b, decide_eq_true hs]; rfl
  refine ⟨(PyData.int i).shown, ?_⟩
  show (if shOk (.int i) then some (D.str (PyData.int i).shown) else none) = _
  rw [if_pos ok]
theorem repr_non : ∃ s, pRepr [.non] = some (.str s) := by
  have ok : shOk .none = true := by
    have hs : (PyData.none).shown.length ≤ sizeLine := by
      have h := PyData.shown_le 24 (by decide) .none rfl
      have : (PyData.none).weight ≤ 64 := by decide
      rw [sizeLine_eq]; omega
    unfold shOk; rw [decide_eq_true hs]; rfl
  refine ⟨(PyData.none).shown, ?_⟩
  show (if shOk .none then some (D.str (PyData.none).shown) else none) = _
  rw [if_pos ok]
end VS

set_option maxRecDepth 100000
set_option maxHeartbeats 0
namespace VS
open PySem L2 SeqAt
structure Sh (w k : Nat) (y : PyData) : Prop where
  l : y.leavesShort 24 = true
  s : y.showable = true
  w : y.weight ≤ w
  d : y.depth ≤ k
theorem sh_all {α : Type} {f : α → PyData} {w k : Nat} : ∀ {xs : List α}, (∀ x ∈ xs, Sh w k (f x)) → PyData.leavesShortAll 24 (xs.map f) = true ∧ PyData.showableAll (xs.map f) = true ∧ PyData.weightAll (xs.map f) ≤ (w + 1) * xs.length ∧ PyData.depthAll (xs.map f) ≤ k
  | [], _ => ⟨rfl, rfl, by simp [PyData.weightAll], by simp [PyData.depthAll]⟩
  | x :: xs, h => by
    obtain ⟨a1, a2, a3, a4⟩ := sh_all (xs := xs) fun y hy => h y (by simp [hy])
    have q := h x (by simp)
    refine ⟨by simp [PyData.leavesShortAll, q.l, a1], by simp [PyData.showableAll, q.s, a2], ?_, ?_⟩
    · have := q.w
      simp only [List.map_cons, PyData.weightAll, List.length_cons]
      rw [Nat.mul_add]; omega
    · have := q.d
      simp only [List.map_cons, PyData.depthAll]; omega
theorem sh_list {α : Type} {f : α → PyData} {w k n : Nat} {xs : List α} (h : ∀ x ∈ xs, Sh w k (f x)) (hn : xs.length ≤ n) : Sh ((w + 1) * n) (k + 1) (.list (xs.map f)) := by
  obtain ⟨a1, a2, a3, a4⟩ := sh_all h
  exact ⟨by simpa only [PyData.leavesShort] using a1, by simpa only [PyData.showable] using a2, by simp only [PyData.weight]; exact Nat.le_trans a3 (Nat.mul_le_mul_left _ hn), by simp only [PyData.depth]; omega⟩
theorem pys_mp {α : Type} {f : α → D} {g : α → PyData} (h : ∀ x, (f x).py = some (g x)) : ∀ xs : List α, pys (xs.map f) = some (xs.map g)
  | [] => rfl
  | x :: xs => by rw [List.map_cons, pys, h, pys_mp h xs]; rfl
theorem repr_nI (g : Fl) {l : List Nat} (h : l.length ≤ 1000) (hl : ∀ i ∈ l, i ≤ 1000) : ∃ s, pRepr [.lst g (l.map nI)] = some (.str s) := by
  have e := pys_nI l
  have hs : Sh ((64 + 1) * 1000) (0 + 1) (.list (l.map fun i => PyData.int (i : Nat))) := sh_list (fun i hi => by
    have := hl i hi
    obtain ⟨a, b, c⟩ := int_short (i := (i : Nat)) (by omega) (by omega)
    exact ⟨a, b, c, by simp [PyData.depth]⟩) h
  generalize hy : PyData.list (l.map fun i => PyData.int (i : Nat)) = y at hs
  have ok : shOk y = true := by
    have h1 : y.shown.length ≤ sizeLine := by
      have h := PyData.shown_le 24 (by decide) y hs.l
      have := hs.w
      rw [sizeLine_eq]; omega
    have h2 : y.depth ≤ 100 := by have := hs.d; omega
    unfold shOk; rw [hs.s, decide_eq_true h1, decide_eq_true h2]; rfl
  refine ⟨y.shown, ?_⟩
  have e2 : (D.lst g (l.map nI)).py = some y := by
    show (pys (l.map nI)).map PyData.list = _
    rw [e, ← hy]; rfl
  unfold pRepr
  simp only [e2, ok, if_true]
/-- needed: it holds, and none leads across without it -/
noncomputable def needB (js : List Jn) (n : Nat) : Bool := @decide (hB js n = true ∧ ∃ jn : Jn, js[n]? = some jn ∧ ∀ i, ¬ FX js n jn.1 i) (Classical.propDecidable _)
theorem needB_t {js : List Jn} {n : Nat} : needB js n = true ↔ hB js n = true ∧ ∃ jn : Jn, js[n]? = some jn ∧ ∀ i, ¬ FX js n jn.1 i := by unfold needB; exact @decide_eq_true_iff _ (Classical.propDecidable _)
noncomputable def nds (js : List Jn) (k : Nat) : List Nat := (List.range k).filter (needB js)
theorem nds_succ (js : List Jn) (k : Nat) : nds js (k + 1) = nds js k ++ (if needB js k = true then [k] else []) := by
  unfold nds
  rw [List.range_succ, List.filter_append]
  congr 1
  simp [List.filter_cons]
section
variable {ns : List Str} {js : List Jn} {n : Nat} {jn : Jn} {dn dj : D}
theorem hs_nds (js : List Jn) (k : Nat) : (hs js k).filter (needB js) = nds js k := by
  unfold hs nds
  rw [List.filter_filter]
  refine List.filter_congr fun i _ => ?_
  rw [Bool.eq_iff_iff, Bool.and_eq_true]
  exact ⟨fun h => h.1, fun h => ⟨h, (needB_t.mp h).1⟩⟩
theorem hs_len (js : List Jn) (k : Nat) : (hs js k).length ≤ k := by
  have b := List.length_filter_le (hB js) (List.range k)
  rw [List.length_range] at b
  exact b
theorem cross_first {a : Str} : ∀ (i : Nat), i ≠ n → Cross js n a i → ∃ k, FX js n a k := by
  intro i
  induction i using Nat.strongRecOn with
  | _ i ih =>
    intro hi hc
    by_cases h : ∃ m, m < i ∧ m ≠ n ∧ Cross js n a m
    · obtain ⟨m, h1, h2, h3⟩ := h
      exact ih m h1 h2 h3
    · exact ⟨i, hi, hc, fun m h1 h2 h3 => h ⟨m, h1, h2, h3⟩⟩
theorem v_needed (hd : Hold jt js dj) (hj : JOk ns js) (hl : ns.length ≤ 100) (hjl : js.length ≤ 300) : φ_needed [dn, dj] = .ok (.lst .m ((nds js js.length).map nI)) [] := by
  have vh := v_held hd hj hl (by omega)
  have hld : dj.lend = dj := by cases hd <;> simp
  have hln := lends_nI (hs js js.length)
  have nl := nols_nI (hs js js.length)
  have ih := imms_nI (hs js js.length)
  have hz : (hs js js.length).length ≤ sizeLine := sz_ok (by have := hs_len js js.length; omega)
  have hc := lc_flt (f := nI) (vs := [3]) (g := gSet 3) (ct := cTt (c2 pIs (cCall φ_in_place (aRo (cVar 1) (aRo (cVar 2) (aRo (cVar 3) aNil)))) (cK .non))) (ce := cGet 3) (env := [some dn, some dj, some (.lst .m ((hs js js.length).map nI)), none]) (y := nI) (t := needB js) (xs := hs js js.length)
    (fun i hi => ⟨[some dn, some dj, some (.lst .m ((hs js js.length).map nI)), some (nI i)], rfl, rfl, by
      obtain ⟨h1, h2⟩ := hs_mem.mp hi
      have eg : js[i]? = some js[i] := List.getElem?_eq_getElem h1
      have vi := v_in_place hd hj hl hjl eg
      have hnI : (nI i).lend = nI i := rfl
      rcases vi with ⟨k, e, hx⟩ | ⟨e, hx⟩
      · have hn : needB js i = false := by
          cases q : needB js i with
          | false => rfl
          | true =>
            obtain ⟨_, jn, e1, e2⟩ := needB_t.mp q
            rw [eg] at e1; cases e1
            exact absurd hx (e2 k)
        have hk : pIs (nI k) .non = some (.bl false) := rfl
        have nk : (nI k).nol = true := rfl
        rw [hn]
        generalize (hs js js.length).map nI = HH at *
        generalize nI k = K at *
        generalize nI i = I at *
        simp [hld, hln, e, hnI, hk, nk]
      · have hn : needB js i = true := needB_t.mpr ⟨h2, _, eg, fun k hk => hx k hk.1 hk.2.1⟩
        rw [hn]
        generalize (hs js js.length).map nI = HH at *
        generalize nI i = I at *
        simp [hld, hln, e, hnI], fun _ => by simp [nI], rfl⟩)
  rw [hs_nds] at hc
  refine fn_rt (env0 := [some dn, some dj, none, none]) (env := [some dn, some dj, some (.lst .m ((hs js js.length).map nI)), none]) ⟨rfl, by decide⟩ rfl ?_ (by rfl)
  unfold b_needed
  generalize hs js js.length = HH at *
  refine seq_nx (env1 := [some dn, some dj, some (.lst .m (HH.map nI)), none]) (by simp [hld, vh, nl]) ?_
  simp [hc, ih, hz]
/-- without the n-th fewer hold just where it is needed -/
theorem lo_less (hn : js[n]? = some jn) : (hs (lo js n) (lo js n).length).length < (hs js js.length).length ↔ needB js n = true := by
  have hnl : n < js.length := (List.getElem?_eq_some_iff.mp hn).1
  have hlen : (hs (lo js n) (lo js n).length).length = (lft js n).length := by unfold lft; rw [List.length_map]
  rw [hlen]
  have nd : ∀ {l : List Nat}, l.Pairwise (· < ·) → l.Nodup := fun h => h.imp fun h => by omega
  have n1 := nd (lft_pw js n)
  have n2 := nd (hs_pw js js.length)
  cases hb : hB js n with
  | false =>
    have : (lft js n).Perm (hs js js.length) := (List.perm_ext_iff_of_nodup n1 n2).mpr fun i => by
      rw [mem_lft hnl, hs_mem]
      constructor
      · rintro ⟨hi, j, e, hc⟩
        exact ⟨(List.getElem?_eq_some_iff.mp e).1, (hB_at e).mpr fun z => hc ((unheld_without hn hb i (by omega)).mpr z)⟩
      · rintro ⟨h1, h2⟩
        have e : js[i]? = some js[i] := List.getElem?_eq_getElem h1
        exact ⟨(fun z => by subst z; rw [hb] at h2; cases h2), _, e, fun z => (hB_at e).mp h2 ((unheld_without hn hb i (by omega)).mp z)⟩
    rw [this.length_eq]
    constructor
    · intro h; omega
    · intro h; rw [(needB_t.mp h).1] at hb; cases hb
  | true =>
    let ot := (hs js js.length).filter fun i => decide (i ≠ n)
    have n3 : ot.Nodup := n2.filter _
    have om : ∀ i, i ∈ ot ↔ i ∈ hs js js.length ∧ i ≠ n := fun i => by show i ∈ (hs js js.length).filter _ ↔ _; rw [List.mem_filter]; simp
    have p1 : (n :: ot).Perm (hs js js.length) := (List.perm_ext_iff_of_nodup (List.nodup_cons.mpr ⟨fun z => ((om n).mp z).2 rfl, n3⟩) n2).mpr fun i => by
      rw [List.mem_cons, om]
      constructor
      · rintro (z | z)
        · subst z; exact hs_mem.mpr ⟨hnl, hb⟩
        · exact z.1
      · intro z
        by_cases q : i = n
        · exact .inl q
        · exact .inr ⟨z, q⟩
    have l1 := p1.length_eq
    rw [List.length_cons] at l1
    by_cases hx : ∃ i, FX js n jn.1 i
    · obtain ⟨i, hx⟩ := hx
      have p2 : (i :: ot).Perm (lft js n) := (List.perm_ext_iff_of_nodup (List.nodup_cons.mpr ⟨fun z => FX_unheld hn hx ((om i).mp z).1, n3⟩) n1).mpr fun k => by
        rw [List.mem_cons, om, lft_held hn hb]
        constructor
        · rintro (z | z)
          · subst z; exact .inr hx
          · exact .inl z
        · rintro (z | z)
          · exact .inr z
          · exact .inl (FX_one z hx)
      have l2 := p2.length_eq
      rw [List.length_cons] at l2
      constructor
      · intro h; omega
      · intro h
        obtain ⟨_, j, e, hno⟩ := needB_t.mp h
        rw [hn] at e; cases e
        exact absurd hx (hno i)
    · have p2 : ot.Perm (lft js n) := (List.perm_ext_iff_of_nodup n3 n1).mpr fun k => by
        rw [om, lft_held hn hb]
        constructor
        · exact .inl
        · rintro (z | z)
          · exact z
          · exact absurd ⟨k, z⟩ hx
      have l2 := p2.length_eq
      constructor
      · intro _; exact needB_t.mpr ⟨hb, jn, hn, fun i hi => hx ⟨i, hi⟩⟩
      · intro _; omega
/-- of the joinings twice over none is needed -/
theorem nds_twice (js : List Jn) : nds (js ++ js) (js ++ js).length = [] := by
  unfold nds
  rw [List.filter_eq_nil_iff]
  intro n hn0 hb
  obtain ⟨h1, jn, e, hno⟩ := needB_t.mp hb
  have hn : n < (js ++ js).length := (List.getElem?_eq_some_iff.mp e).1
  have apart := held_apart e h1 (js ++ js).length
  have self : Conn (sel (js ++ js) (hBx (js ++ js) n) (js ++ js).length) jn.1 jn.1 := .refl _
  have other : ∃ m, m ≠ n ∧ (js ++ js)[m]? = some jn := by
    by_cases h : n < js.length
    · have e1 : js[n]? = some jn := by rw [List.getElem?_append_left h] at e; exact e
      exact ⟨js.length + n, by omega, by rw [List.getElem?_append_right (by omega)]; rw [Nat.add_sub_cancel_left]; exact e1⟩
    · have e1 : js[n - js.length]? = some jn := by rw [List.getElem?_append_right (by omega)] at e; exact e
      have hlt : n - js.length < js.length := (List.getElem?_eq_some_iff.mp e1).1
      exact ⟨n - js.length, by omega, by rw [List.getElem?_append_left hlt]; exact e1⟩
  obtain ⟨m, hm, em⟩ := other
  obtain ⟨k, hk⟩ := cross_first (js := js ++ js) (n := n) (a := jn.1) m hm ⟨jn, em, fun z => apart (z.mp self)⟩
  exact hno k hk
end
end VS

set_option maxRecDepth 100000
set_option maxHeartbeats 0
namespace VS
open PySem L2 SeqAt
theorem cut63 (xs : List D) : cutD xs none (some 63) = xs.take 63 := by
  have e2 : HT.sIx xs.length xs.length (some 63) = min 63 xs.length := by unfold HT.sIx; simp only; rw [if_neg (by omega)]; omega
  unfold cutD
  simp only [HT.sIx_none, e2, List.drop_zero, Nat.sub_zero]
  by_cases h : xs.length ≤ 63
  · rw [List.take_of_length_le h, List.take_of_length_le (by omega)]
  · rw [Nat.min_eq_left (by omega)]
theorem v_begin (xs : List Int) : ∃ c, φ__law_begin [.lst .l (xs.map D.int)] = .ok (st c 0) [] ∧ StO 0 c 0 := by
  have hc := cut63 (xs.map D.int)
  have hm : (xs.map D.int).take 63 = (xs.take 63).map D.int := by rw [List.map_take]
  rw [hm] at hc
  have hl : (xs.take 63).length ≤ 63 := by simp; omega
  generalize xs.take 63 = ys at hc hl
  have hne : pEq (.lst .m (ys.map D.int)) (.lst .m []) = some (.bl ys.isEmpty) := by
    have e : eqOk 40 (.lst .m (ys.map D.int)) = true := by
      unfold eqOk
      have : ∀ zs : List Int, eqOks 39 (zs.map D.int) = true := fun zs => by
        induction zs with
        | nil => rfl
        | cons z zs ih => simp only [List.map_cons, eqOks, ih, Bool.and_true]; rfl
      exact this ys
    have e' : eqOk 40 (.lst .m []) = true := rfl
    unfold pEq; rw [e, e']
    cases ys <;> rfl
  have hst : ∀ zs : List Int, st zs 0 = .dct .m [Sum.inr "cells", Sum.inr "turn"] [.lst .m (zs.map D.int), .int 0] := fun zs => rfl
  have kne : ¬ ("cells" : Str) = "turn" := by decide
  cases ys with
  | nil =>
    refine ⟨[7], ?_, ⟨by decide, by decide, by decide, by decide⟩⟩
    refine fn_rt (env0 := [some (.lst .l (xs.map D.int)), none]) (env := [some (.lst .l (xs.map D.int)), none]) ⟨rfl, by decide⟩ rfl ?_ (by rfl)
    unfold b__law_begin
    refine seq_nx (env1 := [some (.lst .l (xs.map D.int)), some (.lst .m [])]) (by simp at hc; simp [hc]) ?_
    refine seq_nx (env1 := [some (.lst .l (xs.map D.int)), some (.lst .m [.int 7])]) (by simp at hne; simp [hne]) ?_
    rw [hst]; simp [D.key, kne]
  | cons y ys =>
    refine ⟨y :: ys, ?_, ⟨by simp, by simpa using (by omega : (y :: ys).length ≤ 64), by decide, by decide⟩⟩
    rw [hst]
    generalize hL : (y :: ys).map D.int = LL at *
    have hi : imms LL = true := by rw [← hL]; simp
    have hll : LL.length ≤ sizeLine := by rw [← hL, List.length_map]; exact sz_ok (by omega)
    refine fn_rt (env0 := [some (.lst .l (xs.map D.int)), none]) (env := [some (.lst .l (xs.map D.int)), none]) ⟨rfl, by decide⟩ rfl ?_ (by rfl)
    unfold b__law_begin
    refine seq_nx (env1 := [some (.lst .l (xs.map D.int)), some (.lst .m LL)]) (by simp [hc, hi, hll]) ?_
    refine seq_nx (env1 := [some (.lst .l (xs.map D.int)), some (.lst .m LL)]) (by simp at hne; simp [hne]) ?_
    simp [D.key, kne]
section
variable {ns : List Str} {js : List Jn} {n : Nat} {jn : Jn}
theorem v_lmany (hj : JOk ns js) (hl : ns.length ≤ 100) (hjl : js.length ≤ 300) : φ__law_many_classes [.lst .l (ns.map D.str), .lst .l (js.map jt)] = .ok (.int ((ns.length : Int) - ((hs js js.length).length : Nat))) [] := by
  have vh := v_lholding hj hl (by omega)
  have nl := nols_nI (hs js js.length)
  refine fn_rt (env0 := [some (.lst .l (ns.map D.str)), some (.lst .l (js.map jt))]) (env := [some (.lst .l (ns.map D.str)), some (.lst .l (js.map jt))]) ⟨rfl, by decide⟩ rfl ?_ (by rfl)
  unfold b__law_many_classes
  generalize hs js js.length = HH at *
  simp [vh, nl]
def QE (dn dj : D) (o2 o3 o4 o5 o6 o7 o8 : Option D) : Env := [some dn, some dj, o2, o3, o4, o5, o6, o7, o8]
theorem v_l16 (hj : JOk ns js) (hl : ns.length ≤ 100) (hjl : js.length ≤ 140) : φ__law_right [.lst .l (ns.map D.str), .lst .l (js.map jt)] = .ok (.bl true) [] := by
  have m0 := v_lmany hj hl (by omega)
  -- the numbers needed, as the law counts them
  have hloop := for_inv (f := fun i : Nat => D.int (i : Nat)) (g := gSet 4) (body := l__law_right_1)
    (fun rest env => ∃ k o4, k + rest.length = js.length ∧ rest = (List.range js.length).drop k ∧ env = QE (.lst .l (ns.map D.str)) (.lst .l (js.map jt)) (some (.int ((ns.length : Int) - ((hs js js.length).length : Nat)))) (some (.lst .m ((nds js k).map nI))) o4 none none none none)
    (fun n rest env ⟨k, o4, hk, hr, e⟩ => by
      simp only [List.length_cons] at hk
      have hnk : n = k := by
        have e2 : (List.range js.length).drop k = (n :: rest) := hr.symm
        have e3 : ((List.range js.length).drop k)[0]? = some n := by rw [e2]; rfl
        rw [List.getElem?_drop, Nat.add_zero, List.getElem?_range (by omega)] at e3
        exact (Option.some.inj e3).symm
      subst hnk
      have hnl : n < js.length := by omega
      have hrest : rest = (List.range js.length).drop (n + 1) := by
        have := congrArg List.tail hr
        simp only [List.tail_cons] at this
        rw [this, List.tail_drop]
      have eg : js[n]? = some (js[n]'hnl) := List.getElem?_eq_getElem hnl
      have ml := v_lmany (hj.drop1 n) hl (by rw [lo_len hnl]; omega)
      have less := lo_less eg
      have ec : cutD (js.map jt) none (some (n : Int)) ++ cutD (js.map jt) (some ((n : Int) + 1)) none = (lo js n).map jt := by
        rw [cut_to _ (by omega) (by simp; omega), cut_from _ (by omega) (by simp; omega)]
        unfold lo
        rw [List.map_append, List.map_take, List.map_drop]
        congr 2
      have i1 : imms (cutD (js.map jt) none (some (n : Int))) = true := imms_sub (cutD_sub _ _ _) (imms_jts js)
      have i2 : imms (cutD (js.map jt) (some ((n : Int) + 1)) none) = true := imms_sub (cutD_sub _ _ _) (imms_jts js)
      have hz : (cutD (js.map jt) none (some (n : Int))).length + (cutD (js.map jt) (some ((n : Int) + 1)) none).length ≤ sizeLine := by
        rw [← List.length_append, ec, List.length_map, lo_len hnl]
        exact sz_ok (by omega)
      have l1 : lends (cutD (js.map jt) none (some (n : Int)) ++ cutD (js.map jt) (some ((n : Int) + 1)) none) = (lo js n).map jt := by rw [ec]; simp
      have hnd : (nds js n).length < sizeLine := by
        have b := List.length_filter_le (needB js) (List.range n)
        rw [List.length_range] at b
        have : (nds js n).length ≤ n := b
        exact sz_lt (by omega)
      have hn2 : (nds js (n + 1)).map nI = (nds js n).map nI ++ (if needB js n = true then [nI n] else []) := by
        rw [nds_succ, List.map_append]
        by_cases q : needB js n = true
        · rw [if_pos q, if_pos q]; rfl
        · rw [if_neg q, if_neg q]; rfl
      have hln : ((nds js n).map nI).length = (nds js n).length := List.length_map _
      refine ⟨QE (.lst .l (ns.map D.str)) (.lst .l (js.map jt)) (some (.int ((ns.length : Int) - ((hs js js.length).length : Nat)))) (some (.lst .m ((nds js n).map nI))) (some (.int (n : Nat))) none none none none, _, by rw [e]; rfl, ?_, n + 1, some (.int (n : Nat)), by omega, hrest, rfl⟩
      rw [hn2]
      generalize hA : (hs (lo js n) (lo js n).length).length = a at *
      generalize hBB : (hs js js.length).length = b at *
      generalize (nds js n).map nI = NN at *
      unfold l__law_right_1 QE
      by_cases q : needB js n = true
      · have lt : a < b := less.mpr q
        have lt' : (ns.length : Int) - b < (ns.length : Int) - a := by omega
        rw [if_pos q]
        simp [i1, i2, hz, l1, ml, lt', lt, lVar, hln, hnd, nI]
        first | done | omega
      · have lt : ¬ a < b := fun z => q (less.mp z)
        have lt' : ¬ (ns.length : Int) - b < (ns.length : Int) - a := by omega
        rw [if_neg q, List.append_nil]
        simp [i1, i2, hz, l1, ml, lt', lt]
        first | done | omega)
    (List.range js.length) (QE (.lst .l (ns.map D.str)) (.lst .l (js.map jt)) (some (.int ((ns.length : Int) - ((hs js js.length).length : Nat)))) (some (.lst .m [])) none none none none none) ⟨0, none, by simp, by simp, rfl⟩
  obtain ⟨env', f1, k, o4, hk, hr, rfl⟩ := hloop
  have hkl : k = js.length := by simpa using hk
  subst hkl
  have hjsr := e_rng (js.length : Nat) (by omega) (by omega)
  have hnn : ((js.length : Nat) : Int).toNat = js.length := Int.toNat_natCast _
  rw [hnn] at hjsr
  have hndl : (nds js js.length).length ≤ 140 := by
    have b := List.length_filter_le (needB js) (List.range js.length)
    rw [List.length_range] at b
    have : (nds js js.length).length ≤ js.length := b
    omega
  obtain ⟨rs, hrs⟩ := repr_nI .m (l := nds js js.length) (by omega) (fun i hi => by
    have := List.mem_range.mp (List.mem_filter.mp hi).1
    omega)
  have hne := ne_self (g := .m) (g' := .m) (eqOks_jts 38 js)
  have one : ∀ (dn dj : D) (o8 : Option D), Hold jt js dj → dj.imm = true → ∃ p8, l__law_right_2 (QE (.lst .l (ns.map D.str)) (.lst .l (js.map jt)) (some (.int ((ns.length : Int) - ((hs js js.length).length : Nat)))) (some (.lst .m ((nds js js.length).map nI))) o4 (some (.lst .m (js.map jt))) (some dn) (some dj) o8) = .nx (QE (.lst .l (ns.map D.str)) (.lst .l (js.map jt)) (some (.int ((ns.length : Int) - ((hs js js.length).length : Nat)))) (some (.lst .m ((nds js js.length).map nI))) o4 (some (.lst .m (js.map jt))) (some dn) (some dj) p8) := by
    intro dn dj o8 hd hi
    have vn := v_needed (dn := dn.lend) hd hj hl (by omega)
    have hld : dj.lend = dj := by cases hd <;> simp
    have nn := nols_nI (nds js js.length)
    have hpl : pListG [dj] = some (.lst .m (js.map jt)) := by
      cases hd with
      | l => show (if imms (js.map jt) = true then some (D.lst .m (js.map jt)) else none) = _; rw [if_pos (imms_jts js)]
      | t => show (if imms (js.map jt) = true then some (D.lst .m (js.map jt)) else none) = _; rw [if_pos (imms_jts js)]
    have hln : ((nds js js.length).map nI).reverse.length = (nds js js.length).length := by simp
    have hz2 : (nds js js.length).length < sizeLine := sz_lt (by omega)
    refine ⟨some (.lst .m (((nds js js.length).map nI).reverse ++ [.int 0])), ?_⟩
    generalize hs js js.length = HH at *
    generalize hN : (nds js js.length).map nI = NN at *
    have hNl : NN.length < sizeLine := by rw [← hN, List.length_map]; exact hz2
    have hrev : mReverse (.lst .m NN) [] = some (.lst .m NN.reverse, .non) := rfl
    have happ : mAppend (.lst .m NN.reverse) [.int 0] = some (.lst .m (NN.reverse ++ [.int 0]), .non) := by
      show (if NN.reverse.length < sizeLine then some (D.lst .m (NN.reverse ++ [.int 0]), D.non) else none) = _
      rw [List.length_reverse, if_pos hNl]
    have k1 : kdL (.lst .m NN) = true := rfl
    have k2 : kdL (.lst .m NN.reverse) = true := rfl
    unfold l__law_right_2
    refine seq_nx (env1 := QE (.lst .l (ns.map D.str)) (.lst .l (js.map jt)) (some (.int ((ns.length : Int) - (HH.length : Nat)))) (some (.lst .m NN)) o4 (some (.lst .m (js.map jt))) (some dn) (some dj) (some (.lst .m NN))) (by unfold QE; simp [vn, hld, nn]) ?_
    refine seq_nx (env1 := QE (.lst .l (ns.map D.str)) (.lst .l (js.map jt)) (some (.int ((ns.length : Int) - (HH.length : Nat)))) (some (.lst .m NN)) o4 (some (.lst .m (js.map jt))) (some dn) (some dj) (some (.lst .m NN))) (by unfold QE; simp [hrs, hpl, hne]) ?_
    refine seq_nx (env1 := QE (.lst .l (ns.map D.str)) (.lst .l (js.map jt)) (some (.int ((ns.length : Int) - (HH.length : Nat)))) (some (.lst .m NN)) o4 (some (.lst .m (js.map jt))) (some dn) (some dj) (some (.lst .m NN.reverse))) (by unfold QE; simp [lVar, k1, hrev]) ?_
    unfold QE; simp [lVar, k2, happ]
  have ir : imms (ns.map D.str).reverse = true := imms_rev (by simp)
  have hfx : fixs (ns.map D.str).reverse = (ns.map D.str).reverse := by rw [← List.map_reverse]; exact fixs_map (fun _ => rfl) _
  have vt := v_needed (dn := .lst .l (ns.map D.str)) (.l : Hold jt (js ++ js) (.lst .l ((js ++ js).map jt))) (ns := ns) ⟨fun j h => (List.mem_append.mp h).elim (hj.one j) (hj.one j), fun j h => (List.mem_append.mp h).elim (hj.other j) (hj.other j), fun j h => (List.mem_append.mp h).elim (hj.lo j) (hj.lo j), fun j h => (List.mem_append.mp h).elim (hj.hi j) (hj.hi j)⟩ hl (by simp; omega)
  rw [nds_twice] at vt
  have hz : ns.length ≤ sizeLine := sz_ok (by omega)
  have hz3 : js.length + js.length ≤ sizeLine := sz_ok (by omega)
  obtain ⟨p1, q1⟩ := one (.lst .l (ns.map D.str)) (.lst .l (js.map jt)) none .l (by simp)
  obtain ⟨p2, q2⟩ := one (.tup (ns.map D.str)) (.tup (js.map jt)) p1 .t (by simp)
  obtain ⟨p3, q3⟩ := one (.lst .f (ns.map D.str).reverse) (.lst .l (js.map jt)) p2 .l (by simp)
  refine fn_rt (env0 := QE (.lst .l (ns.map D.str)) (.lst .l (js.map jt)) none none none none none none none) (env := QE (.lst .l (ns.map D.str)) (.lst .l (js.map jt)) (some (.int ((ns.length : Int) - ((hs js js.length).length : Nat)))) (some (.lst .m ((nds js js.length).map nI))) o4 (some (.lst .m (js.map jt))) (some (.lst .f (ns.map D.str).reverse)) (some (.lst .l (js.map jt))) p3) ⟨rfl, by decide⟩ rfl ?_ (by rfl)
  unfold b__law_right
  refine seq_nx (env1 := QE (.lst .l (ns.map D.str)) (.lst .l (js.map jt)) (some (.int ((ns.length : Int) - ((hs js js.length).length : Nat)))) none none none none none none) (by unfold QE; simp [m0]) ?_
  refine seq_nx (env1 := QE (.lst .l (ns.map D.str)) (.lst .l (js.map jt)) (some (.int ((ns.length : Int) - ((hs js js.length).length : Nat)))) (some (.lst .m [])) none none none none none) (by unfold QE; simp) ?_
  generalize hs js js.length = HH at *
  generalize (nds js js.length).map nI = NN at *
  refine seq_nx (env1 := QE (.lst .l (ns.map D.str)) (.lst .l (js.map jt)) (some (.int ((ns.length : Int) - (HH.length : Nat)))) (some (.lst .m NN)) o4 none none none none) ?_ ?_
  · unfold QE at *
    simp [hjsr, f1]
  refine seq_nx (env1 := QE (.lst .l (ns.map D.str)) (.lst .l (js.map jt)) (some (.int ((ns.length : Int) - (HH.length : Nat)))) (some (.lst .m NN)) o4 (some (.lst .m (js.map jt))) none none none) (by unfold QE; simp) ?_
  refine seq_nx (env1 := QE (.lst .l (ns.map D.str)) (.lst .l (js.map jt)) (some (.int ((ns.length : Int) - (HH.length : Nat)))) (some (.lst .m NN)) o4 (some (.lst .m (js.map jt))) (some (.lst .f (ns.map D.str).reverse)) (some (.lst .l (js.map jt))) p3) ?_ ?_
  · have three : forRun (gTupD 2 (gConsD (gSet 6) (gConsD (gSet 7) gNilD))) l__law_right_2 [.tup [.lst .l (ns.map D.str), .lst .l (js.map jt)], .tup [.tup (ns.map D.str), .tup (js.map jt)], .tup [.lst .f (ns.map D.str).reverse, .lst .l (js.map jt)]] (QE (.lst .l (ns.map D.str)) (.lst .l (js.map jt)) (some (.int ((ns.length : Int) - (HH.length : Nat)))) (some (.lst .m NN)) o4 (some (.lst .m (js.map jt))) none none none) = .nx (QE (.lst .l (ns.map D.str)) (.lst .l (js.map jt)) (some (.int ((ns.length : Int) - (HH.length : Nat)))) (some (.lst .m NN)) o4 (some (.lst .m (js.map jt))) (some (.lst .f (ns.map D.str).reverse)) (some (.lst .l (js.map jt))) p3) := by
      rw [for_nx rfl q1, for_nx rfl q2, for_nx rfl q3]; rfl
    have hT : (cTup (cCons (cTup (cCons (cGet 0) (cCons (cGet 1) cNil))) (cCons (cTup (cCons (cL pTuple (cCons (cVar 0) cNil)) (cCons (cL pTuple (cCons (cVar 1) cNil)) cNil))) (cCons (cTup (cCons (cFix (cRevL (cVar 0))) (cCons (cGet 1) cNil))) cNil)))) (QE (.lst .l (ns.map D.str)) (.lst .l (js.map jt)) (some (.int ((ns.length : Int) - (HH.length : Nat)))) (some (.lst .m NN)) o4 (some (.lst .m (js.map jt))) none none none) = .ok (.tup [.tup [.lst .l (ns.map D.str), .lst .l (js.map jt)], .tup [.tup (ns.map D.str), .tup (js.map jt)], .tup [.lst .f (ns.map D.str).reverse, .lst .l (js.map jt)]]) (QE (.lst .l (ns.map D.str)) (.lst .l (js.map jt)) (some (.int ((ns.length : Int) - (HH.length : Nat)))) (some (.lst .m NN)) o4 (some (.lst .m (js.map jt))) none none none) := by
      unfold QE; simp [ir, hfx]
    generalize cTup _ = TT at hT ⊢
    simp [hT, three, ir]
  · have e2 : (js ++ js).map jt = js.map jt ++ js.map jt := List.map_append
    rw [e2] at vt
    have ee : pEq (.lst .m []) (.lst .m []) = some (.bl true) := rfl
    unfold QE; simp [hz3, vt, ee]
theorem v_turn {B : Int} {c : List Int} {t : Int} (h : StO B c t) (hB : B ≤ 10000) (d0 : D) (o2 o3 o4 : Option D) :
    ∃ c' t' p3 p4, l_law_1 [some d0, some (st c t), o2, o3, o4] = .nx [some d0, some (st c' t'), o2, p3, p4] ∧ StO (B + 400) c' t' := by
  obtain ⟨ns, c1, t1, e1, nb, s1⟩ := v_names h (by omega)
  obtain ⟨js, c2', t2, e2, hj, hjl, s2⟩ := v_joinings s1 (by omega) nb.len
  obtain ⟨r, c3, e3, p0, p1, s3⟩ := v_take s2 (by omega) (m := 2) (by decide) (by decide)
  have hnl := nb.len
  have sub : ∀ {l : List Jn}, (∀ j ∈ l, j ∈ js) → JOk ns l := fun h => ⟨fun j q => hj.one j (h j q), fun j q => hj.other j (h j q), fun j q => hj.lo j (h j q), fun j q => hj.hi j (h j q)⟩
  have q0 := imm_st c t
  have q1 := imm_st c1 t1
  have q2 := nol_st c1 t1
  have q3 := nol_st c2' t2
  have q4 := imm_st c2' t2
  have q5 := nol_st c3 (t2 + 1)
  obtain ⟨js2, hs2, l2, s⟩ : ∃ js2 : List Jn, (∀ j ∈ js2, j ∈ js) ∧ js2.length ≤ 32 ∧ (sIf (cTt (c2 pEq (cCall φ__law_take (aOw (cMv 1) (some 1) (aRo (cK (.int 2)) aNil))) (cK (.int 0)))) (sAsg (cSl (cVar 4) pNo (pAt (cL pLen (cCons (cVar 3) cNil)))) (gSet 4)) sNil) [some d0, some (st c2' t2), o2, some (.lst .m (ns.map D.str)), some (.lst .m (js.map jt))] = .nx [some d0, some (st c3 (t2 + 1)), o2, some (.lst .m (ns.map D.str)), some (.lst .m (js2.map jt))] := by
    generalize st c2' t2 = A at *
    generalize st c3 (t2 + 1) = A1 at *
    by_cases h0 : r = 0
    · by_cases hle : ns.length ≤ js.length
      · refine ⟨js.take ns.length, fun j q => List.mem_of_mem_take q, by simp; omega, ?_⟩
        have hc := cut_to (js.map jt) (k := (ns.length : Nat)) (by omega) (by simp; omega)
        rw [Int.toNat_natCast, ← List.map_take] at hc
        simp [e3, q4, q5, h0, hc]
      · refine ⟨js, fun j q => q, hjl, ?_⟩
        have hc : cutD (js.map jt) none (some (ns.length : Nat)) = js.map jt := by
          have e2 : HT.sIx js.length js.length (some (ns.length : Nat)) = js.length := by unfold HT.sIx; simp only; rw [if_neg (by omega)]; omega
          unfold cutD
          simp [HT.sIx_none, e2]
          first | done | exact List.take_of_length_le (by simp)
        simp [e3, q4, q5, h0, hc]
    · exact ⟨js, fun j q => q, hjl, by simp [e3, q4, q5, h0]⟩
  have rt := v_l16 (sub hs2) (by omega) (by omega : js2.length ≤ 140)
  refine ⟨c3, t2 + 1, some (.lst .m (ns.map D.str)), some (.lst .m (js2.map jt)), ?_, s3.up (by omega)⟩
  unfold l_law_1
  generalize st c t = A at *
  generalize st c1 t1 = A1 at *
  generalize st c2' t2 = A2 at *
  generalize st c3 (t2 + 1) = A3 at *
  refine seq_nx (env1 := [some d0, some A1, o2, some (.lst .m (ns.map D.str)), o4]) (by simp [e1, q0, q2]) ?_
  refine seq_nx (env1 := [some d0, some A2, o2, some (.lst .m (ns.map D.str)), some (.lst .m (js.map jt))]) (by simp [e2, q1, q3]) ?_
  refine seq_nx s ?_
  simp [rt]
theorem v_law (xs : List Int) (h : xs.length ≤ 63) : φ_law [.lst .l (xs.map D.int)] = .ok (.bl true) [] := by
  obtain ⟨c, e0, s0⟩ := v_begin xs
  obtain ⟨r, c1, e1, p0, p1, s1⟩ := v_take s0 (by decide) (m := 2) (by decide) (by decide)
  have hloop := for_inv (f := fun i : Nat => D.int (i : Nat)) (g := gSet 2) (body := l_law_1)
    (fun rest env => ∃ k c t o2 o3 o4, k + rest.length = (1 + r).toNat ∧ env = [some (.lst .l (xs.map D.int)), some (st c t), o2, o3, o4] ∧ StO (1 + 400 * k) c t)
    (fun x rest env ⟨k, c, t, o2, o3, o4, hk, e, s⟩ => by
      simp only [List.length_cons] at hk
      obtain ⟨c', t', p3, p4, g1, g2⟩ := v_turn s (by omega) (.lst .l (xs.map D.int)) (some (.int (x : Nat))) o3 o4
      exact ⟨_, _, by rw [e]; rfl, g1, k + 1, c', t', _, _, _, by omega, rfl, g2.up (by omega)⟩)
    (List.range (1 + r).toNat) [some (.lst .l (xs.map D.int)), some (st c1 (0 + 1)), none, none, none] ⟨0, c1, 0 + 1, none, none, none, by simp, rfl, s1.up (by simp)⟩
  obtain ⟨env', f1, k, c2', t2, o2, o3, o4, hk, rfl, s2⟩ := hloop
  have hr := e_rng (1 + r) (by omega) (by omega)
  have q0 := imm_st c 0
  have q1 := nol_st c 0
  have q2 := nol_st c1 (0 + 1)
  refine fn_rt (env0 := [some (.lst .l (xs.map D.int)), none, none, none, none]) (env := [some (.lst .l (xs.map D.int)), some (st c2' t2), o2, o3, o4]) ⟨rfl, by decide⟩ rfl ?_ (by rfl)
  unfold b_law
  generalize st c 0 = A at *
  generalize st c1 (0 + 1) = A1 at *
  generalize st c2' t2 = A2 at *
  refine seq_nx (env1 := [some (.lst .l (xs.map D.int)), some A, none, none, none]) (by simp [e0, q1]) ?_
  refine seq_nx (env1 := [some (.lst .l (xs.map D.int)), some A2, o2, o3, o4]) ?_ (by simp)
  simp [e1, q0, q2, hr, f1]
end
end VS

set_option maxRecDepth 100000
set_option maxHeartbeats 0
namespace VS
open PySem L2 SeqAt PySem.Spec PyProof.Rows
theorem all_mk {l : PySem.W.OpenLaw} {w : World} {K : PySem.W.Frag} {h : Heap} {mg : Str → Option Value} {fa f1 f2 f3 f4 f5 f6 f7 f8 f9 f10 f11 f12 f13 f14 f15  : Addr} (X : K.In h) (G : h.Ns mainGlobals mg) (hfa : mg "law" = some (.ref fa))
    {od1 an1 : Option Addr} {sl1 : Array (Option Value)} {oc1 kV1 dc1 pm1 cd1 ct1 : Value}
    (a1 : PySem.W.nsIn K mainGlobals "_law_begin" = some (some (.ref f1))) (l1 : K.lookup f1 = some ⟨oc1, od1, .func (PySem.W.fnOf "_law_begin" "_law_begin" (defArgs s__law_begin) (defBody s__law_begin) (defScope s__law_begin) .none kV1 dc1 pm1 an1 cd1 ct1), sl1⟩) (k1 : PySem.W.codeIn K cd1 "_law_begin" = true) (p1 : PySem.W.keepIn K (.ref f1) = true)
    {od2 an2 : Option Addr} {sl2 : Array (Option Value)} {oc2 kV2 dc2 pm2 cd2 ct2 : Value}
    (a2 : PySem.W.nsIn K mainGlobals "_law_take" = some (some (.ref f2))) (l2 : K.lookup f2 = some ⟨oc2, od2, .func (PySem.W.fnOf "_law_take" "_law_take" (defArgs s__law_take) (defBody s__law_take) (defScope s__law_take) .none kV2 dc2 pm2 an2 cd2 ct2), sl2⟩) (k2 : PySem.W.codeIn K cd2 "_law_take" = true) (p2 : PySem.W.keepIn K (.ref f2) = true)
    {od3 an3 : Option Addr} {sl3 : Array (Option Value)} {oc3 kV3 dc3 pm3 cd3 ct3 : Value}
    (a3 : PySem.W.nsIn K mainGlobals "_law_names" = some (some (.ref f3))) (l3 : K.lookup f3 = some ⟨oc3, od3, .func (PySem.W.fnOf "_law_names" "_law_names" (defArgs s__law_names) (defBody s__law_names) (defScope s__law_names) .none kV3 dc3 pm3 an3 cd3 ct3), sl3⟩) (k3 : PySem.W.codeIn K cd3 "_law_names" = true) (p3 : PySem.W.keepIn K (.ref f3) = true)
    {od4 an4 : Option Addr} {sl4 : Array (Option Value)} {oc4 kV4 dc4 pm4 cd4 ct4 : Value}
    (a4 : PySem.W.nsIn K mainGlobals "_law_joinings" = some (some (.ref f4))) (l4 : K.lookup f4 = some ⟨oc4, od4, .func (PySem.W.fnOf "_law_joinings" "_law_joinings" (defArgs s__law_joinings) (defBody s__law_joinings) (defScope s__law_joinings) .none kV4 dc4 pm4 an4 cd4 ct4), sl4⟩) (k4 : PySem.W.codeIn K cd4 "_law_joinings" = true) (p4 : PySem.W.keepIn K (.ref f4) = true)
    {od5 an5 : Option Addr} {sl5 : Array (Option Value)} {oc5 kV5 dc5 pm5 cd5 ct5 : Value}
    (a5 : PySem.W.nsIn K mainGlobals "_law_holding" = some (some (.ref f5))) (l5 : K.lookup f5 = some ⟨oc5, od5, .func (PySem.W.fnOf "_law_holding" "_law_holding" (defArgs s__law_holding) (defBody s__law_holding) (defScope s__law_holding) .none kV5 dc5 pm5 an5 cd5 ct5), sl5⟩) (k5 : PySem.W.codeIn K cd5 "_law_holding" = true) (p5 : PySem.W.keepIn K (.ref f5) = true)
    {od6 an6 : Option Addr} {sl6 : Array (Option Value)} {oc6 kV6 dc6 pm6 cd6 ct6 : Value}
    (a6 : PySem.W.nsIn K mainGlobals "_law_many_classes" = some (some (.ref f6))) (l6 : K.lookup f6 = some ⟨oc6, od6, .func (PySem.W.fnOf "_law_many_classes" "_law_many_classes" (defArgs s__law_many_classes) (defBody s__law_many_classes) (defScope s__law_many_classes) .none kV6 dc6 pm6 an6 cd6 ct6), sl6⟩) (k6 : PySem.W.codeIn K cd6 "_law_many_classes" = true) (p6 : PySem.W.keepIn K (.ref f6) = true)
    {od7 an7 : Option Addr} {sl7 : Array (Option Value)} {oc7 kV7 dc7 pm7 cd7 ct7 : Value}
    (a7 : PySem.W.nsIn K mainGlobals "head_of" = some (some (.ref f7))) (l7 : K.lookup f7 = some ⟨oc7, od7, .func (PySem.W.fnOf "head_of" "head_of" (defArgs s_head_of) (defBody s_head_of) (defScope s_head_of) .none kV7 dc7 pm7 an7 cd7 ct7), sl7⟩) (k7 : PySem.W.codeIn K cd7 "head_of" = true) (p7 : PySem.W.keepIn K (.ref f7) = true)
    {od8 an8 : Option Addr} {sl8 : Array (Option Value)} {oc8 kV8 dc8 pm8 cd8 ct8 : Value}
    (a8 : PySem.W.nsIn K mainGlobals "holding_of" = some (some (.ref f8))) (l8 : K.lookup f8 = some ⟨oc8, od8, .func (PySem.W.fnOf "holding_of" "holding_of" (defArgs s_holding_of) (defBody s_holding_of) (defScope s_holding_of) .none kV8 dc8 pm8 an8 cd8 ct8), sl8⟩) (k8 : PySem.W.codeIn K cd8 "holding_of" = true) (p8 : PySem.W.keepIn K (.ref f8) = true)
    {od9 an9 : Option Addr} {sl9 : Array (Option Value)} {oc9 kV9 dc9 pm9 cd9 ct9 : Value}
    (a9 : PySem.W.nsIn K mainGlobals "edges_by" = some (some (.ref f9))) (l9 : K.lookup f9 = some ⟨oc9, od9, .func (PySem.W.fnOf "edges_by" "edges_by" (defArgs s_edges_by) (defBody s_edges_by) (defScope s_edges_by) .none kV9 dc9 pm9 an9 cd9 ct9), sl9⟩) (k9 : PySem.W.codeIn K cd9 "edges_by" = true) (p9 : PySem.W.keepIn K (.ref f9) = true)
    {od10 an10 : Option Addr} {sl10 : Array (Option Value)} {oc10 kV10 dc10 pm10 cd10 ct10 : Value}
    (a10 : PySem.W.nsIn K mainGlobals "far_from" = some (some (.ref f10))) (l10 : K.lookup f10 = some ⟨oc10, od10, .func (PySem.W.fnOf "far_from" "far_from" (defArgs s_far_from) (defBody s_far_from) (defScope s_far_from) .none kV10 dc10 pm10 an10 cd10 ct10), sl10⟩) (k10 : PySem.W.codeIn K cd10 "far_from" = true) (p10 : PySem.W.keepIn K (.ref f10) = true)
    {od11 an11 : Option Addr} {sl11 : Array (Option Value)} {oc11 kV11 dc11 pm11 cd11 ct11 : Value}
    (a11 : PySem.W.nsIn K mainGlobals "first_across" = some (some (.ref f11))) (l11 : K.lookup f11 = some ⟨oc11, od11, .func (PySem.W.fnOf "first_across" "first_across" (defArgs s_first_across) (defBody s_first_across) (defScope s_first_across) .none kV11 dc11 pm11 an11 cd11 ct11), sl11⟩) (k11 : PySem.W.codeIn K cd11 "first_across" = true) (p11 : PySem.W.keepIn K (.ref f11) = true)
    {od12 an12 : Option Addr} {sl12 : Array (Option Value)} {oc12 kV12 dc12 pm12 cd12 ct12 : Value}
    (a12 : PySem.W.nsIn K mainGlobals "in_place" = some (some (.ref f12))) (l12 : K.lookup f12 = some ⟨oc12, od12, .func (PySem.W.fnOf "in_place" "in_place" (defArgs s_in_place) (defBody s_in_place) (defScope s_in_place) .none kV12 dc12 pm12 an12 cd12 ct12), sl12⟩) (k12 : PySem.W.codeIn K cd12 "in_place" = true) (p12 : PySem.W.keepIn K (.ref f12) = true)
    {od13 an13 : Option Addr} {sl13 : Array (Option Value)} {oc13 kV13 dc13 pm13 cd13 ct13 : Value}
    (a13 : PySem.W.nsIn K mainGlobals "needed" = some (some (.ref f13))) (l13 : K.lookup f13 = some ⟨oc13, od13, .func (PySem.W.fnOf "needed" "needed" (defArgs s_needed) (defBody s_needed) (defScope s_needed) .none kV13 dc13 pm13 an13 cd13 ct13), sl13⟩) (k13 : PySem.W.codeIn K cd13 "needed" = true) (p13 : PySem.W.keepIn K (.ref f13) = true)
    {od14 an14 : Option Addr} {sl14 : Array (Option Value)} {oc14 kV14 dc14 pm14 cd14 ct14 : Value}
    (a14 : PySem.W.nsIn K mainGlobals "_law_right" = some (some (.ref f14))) (l14 : K.lookup f14 = some ⟨oc14, od14, .func (PySem.W.fnOf "_law_right" "_law_right" (defArgs s__law_right) (defBody s__law_right) (defScope s__law_right) .none kV14 dc14 pm14 an14 cd14 ct14), sl14⟩) (k14 : PySem.W.codeIn K cd14 "_law_right" = true) (p14 : PySem.W.keepIn K (.ref f14) = true)
    {od15 an15 : Option Addr} {sl15 : Array (Option Value)} {oc15 kV15 dc15 pm15 cd15 ct15 : Value}
    (a15 : PySem.W.nsIn K mainGlobals "law" = some (some (.ref f15))) (l15 : K.lookup f15 = some ⟨oc15, od15, .func (PySem.W.fnOf "law" "law" (defArgs s_law) (defBody s_law) (defScope s_law) .none kV15 dc15 pm15 an15 cd15 ct15), sl15⟩) (k15 : PySem.W.codeIn K cd15 "law" = true) (p15 : PySem.W.keepIn K (.ref f15) = true)
    (w_list : PySem.W.nsIn K mainGlobals "list" = some none)
    (w_len : PySem.W.nsIn K mainGlobals "len" = some none)
    (w_divmod : PySem.W.nsIn K mainGlobals "divmod" = some none)
    (w_range : PySem.W.nsIn K mainGlobals "range" = some none)
    (w_enumerate : PySem.W.nsIn K mainGlobals "enumerate" = some none)
    (w_tuple : PySem.W.nsIn K mainGlobals "tuple" = some none)
    (w_reversed : PySem.W.nsIn K mainGlobals "reversed" = some none)
    (w_repr : PySem.W.nsIn K mainGlobals "repr" = some none)
 :
    ∃ fd : FuncData, (∀ (s : Shared) (v : Value), BindsTo s fd ⟨[v], []⟩ [("_law_script", v)]) ∧ ∀ base : Heap, K.In base → base.Ns mainGlobals mg → FnG l.prog w K mg base 5 fa fd ["_law_script"] (spLaw K) := by
  have e := hfa.symm.trans (PySem.W.mg_of X G a15)
  cases e
  have F1 := fun_mk (st := s__law_begin) l1 k1 p1
  have b1 := F1.binds (ps := ["_law_script"]) fun _ _ _ _ _ _ us hl => match us, hl with | [_], _ => rfl
  have F2 := fun_mk (st := s__law_take) l2 k2 p2
  have b2 := F2.binds (ps := ["_law_state", "_law_many"]) fun _ _ _ _ _ _ us hl => match us, hl with | [_, _], _ => rfl
  have F3 := fun_mk (st := s__law_names) l3 k3 p3
  have b3 := F3.binds (ps := ["_law_state"]) fun _ _ _ _ _ _ us hl => match us, hl with | [_], _ => rfl
  have F4 := fun_mk (st := s__law_joinings) l4 k4 p4
  have b4 := F4.binds (ps := ["_law_state", "_law_names_here"]) fun _ _ _ _ _ _ us hl => match us, hl with | [_, _], _ => rfl
  have F5 := fun_mk (st := s__law_holding) l5 k5 p5
  have b5 := F5.binds (ps := ["_law_joinings_here"]) fun _ _ _ _ _ _ us hl => match us, hl with | [_], _ => rfl
  have F6 := fun_mk (st := s__law_many_classes) l6 k6 p6
  have b6 := F6.binds (ps := ["_law_names_here", "_law_joinings_here"]) fun _ _ _ _ _ _ us hl => match us, hl with | [_, _], _ => rfl
  have F7 := fun_mk (st := s_head_of) l7 k7 p7
  have b7 := F7.binds (ps := ["heads", "name"]) fun _ _ _ _ _ _ us hl => match us, hl with | [_, _], _ => rfl
  have F8 := fun_mk (st := s_holding_of) l8 k8 p8
  have b8 := F8.binds (ps := ["joinings"]) fun _ _ _ _ _ _ us hl => match us, hl with | [_], _ => rfl
  have F9 := fun_mk (st := s_edges_by) l9 k9 p9
  have b9 := F9.binds (ps := ["joinings", "numbers"]) fun _ _ _ _ _ _ us hl => match us, hl with | [_, _], _ => rfl
  have F10 := fun_mk (st := s_far_from) l10 k10 p10
  have b10 := F10.binds (ps := ["edges", "start"]) fun _ _ _ _ _ _ us hl => match us, hl with | [_, _], _ => rfl
  have F11 := fun_mk (st := s_first_across) l11 k11 p11
  have b11 := F11.binds (ps := ["joinings", "n", "side"]) fun _ _ _ _ _ _ us hl => match us, hl with | [_, _, _], _ => rfl
  have F12 := fun_mk (st := s_in_place) l12 k12 p12
  have b12 := F12.binds (ps := ["joinings", "held", "n"]) fun _ _ _ _ _ _ us hl => match us, hl with | [_, _, _], _ => rfl
  have F13 := fun_mk (st := s_needed) l13 k13 p13
  have b13 := F13.binds (ps := ["names", "joinings"]) fun _ _ _ _ _ _ us hl => match us, hl with | [_, _], _ => rfl
  have F14 := fun_mk (st := s__law_right) l14 k14 p14
  have b14 := F14.binds (ps := ["_law_names_here", "_law_joinings_here"]) fun _ _ _ _ _ _ us hl => match us, hl with | [_, _], _ => rfl
  have F15 := fun_mk (st := s_law) l15 k15 p15
  have z_list := PySem.W.mg_none_of X G w_list
  have z_len := PySem.W.mg_none_of X G w_len
  have z_divmod := PySem.W.mg_none_of X G w_divmod
  have z_range := PySem.W.mg_none_of X G w_range
  have z_enumerate := PySem.W.mg_none_of X G w_enumerate
  have z_tuple := PySem.W.mg_none_of X G w_tuple
  have z_reversed := PySem.W.mg_none_of X G w_reversed
  have z_repr := PySem.W.mg_none_of X G w_repr
  refine ⟨PySem.W.fnOf "law" "law" (defArgs s_law) (defBody s_law) (defScope s_law) .none kV15 dc15 pm15 an15 cd15 ct15, fun s v => .of_eq rfl, fun base _ _ => ?_⟩
  have d__law_begin : Fd l.prog w K mg base 1 "_law_begin" ["_law_script"] [false] φ__law_begin := fd_mk F1 (PySem.W.mg_of X G a1) b1 (ok__law_begin F1 z_list)
  have d__law_take : Fd l.prog w K mg base 1 "_law_take" ["_law_state", "_law_many"] [true, false] φ__law_take := fd_mk F2 (PySem.W.mg_of X G a2) b2 (ok__law_take F2 z_len z_divmod)
  have d__law_names : Fd l.prog w K mg base 2 "_law_names" ["_law_state"] [true] φ__law_names := fd_mk F3 (PySem.W.mg_of X G a3) b3 (ok__law_names F3 z_len d__law_take)
  have d__law_joinings : Fd l.prog w K mg base 2 "_law_joinings" ["_law_state", "_law_names_here"] [true, false] φ__law_joinings := fd_mk F4 (PySem.W.mg_of X G a4) b4 (ok__law_joinings F4 z_len z_range d__law_take)
  have d__law_holding : Fd l.prog w K mg base 1 "_law_holding" ["_law_joinings_here"] [false] φ__law_holding := fd_mk F5 (PySem.W.mg_of X G a5) b5 (ok__law_holding F5 z_enumerate)
  have d__law_many_classes : Fd l.prog w K mg base 2 "_law_many_classes" ["_law_names_here", "_law_joinings_here"] [false, false] φ__law_many_classes := fd_mk F6 (PySem.W.mg_of X G a6) b6 (ok__law_many_classes F6 z_len d__law_holding)
  have d_head_of : Fd l.prog w K mg base 1 "head_of" ["heads", "name"] [false, false] φ_head_of := fd_mk F7 (PySem.W.mg_of X G a7) b7 (ok_head_of F7 )
  have d_holding_of : Fd l.prog w K mg base 2 "holding_of" ["joinings"] [false] φ_holding_of := fd_mk F8 (PySem.W.mg_of X G a8) b8 (ok_holding_of F8 z_enumerate d_head_of)
  have d_edges_by : Fd l.prog w K mg base 1 "edges_by" ["joinings", "numbers"] [false, false] φ_edges_by := fd_mk F9 (PySem.W.mg_of X G a9) b9 (ok_edges_by F9 )
  have d_far_from : Fd l.prog w K mg base 1 "far_from" ["edges", "start"] [false, false] φ_far_from := fd_mk F10 (PySem.W.mg_of X G a10) b10 (ok_far_from F10 z_len)
  have d_first_across : Fd l.prog w K mg base 1 "first_across" ["joinings", "n", "side"] [false, false, false] φ_first_across := fd_mk F11 (PySem.W.mg_of X G a11) b11 (ok_first_across F11 z_enumerate)
  have d_in_place : Fd l.prog w K mg base 2 "in_place" ["joinings", "held", "n"] [false, false, false] φ_in_place := fd_mk F12 (PySem.W.mg_of X G a12) b12 (ok_in_place F12 d_edges_by d_far_from d_first_across)
  have d_needed : Fd l.prog w K mg base 3 "needed" ["names", "joinings"] [false, false] φ_needed := fd_mk F13 (PySem.W.mg_of X G a13) b13 (ok_needed F13 d_holding_of d_in_place)
  have d__law_right : FdG l.prog w K mg base 4 "_law_right" ["_law_names_here", "_law_joinings_here"] [false, false] φ__law_right := fdg_mk F14 (PySem.W.mg_of X G a14) b14 (ok__law_right F14 z_len z_range z_list z_tuple z_reversed z_repr d__law_many_classes d_needed)
  exact law_impG (ok_law F15 z_range z_len d__law_begin d__law_take d__law_names d__law_joinings d__law_right) fun ns h1 h2 => v_law ns h1
end VS
open PySem PySem.W PyProof.Rows
set_option maxRecDepth 100000 in
set_option maxHeartbeats 0 in
theorem PySem.Challenge.cw_joinback_k16_needed_holds : PySem.Challenge.rw_joinback_k16_needed.Holds := by
  w_on; o_law; k_head; (case hw => w_witness2)
  k_fill
  refine VS.walkG (l := PySem.Challenge.rw_joinback_k16_needed) (k := 5) (x := "_law_script") rfl rfl ⟨rfl, by decide, by decide⟩ (fun w h Y => PySem.W.kIn_of Y) ?F
  case F =>
    intro w mg fa h KX G hmg
    refine' VS.all_mk KX G hmg ?a1 ?l1 ?k1 ?p1 ?a2 ?l2 ?k2 ?p2 ?a3 ?l3 ?k3 ?p3 ?a4 ?l4 ?k4 ?p4 ?a5 ?l5 ?k5 ?p5 ?a6 ?l6 ?k6 ?p6 ?a7 ?l7 ?k7 ?p7 ?a8 ?l8 ?k8 ?p8 ?a9 ?l9 ?k9 ?p9 ?a10 ?l10 ?k10 ?p10 ?a11 ?l11 ?k11 ?p11 ?a12 ?l12 ?k12 ?p12 ?a13 ?l13 ?k13 ?p13 ?a14 ?l14 ?k14 ?p14 ?a15 ?l15 ?k15 ?p15 ?w_list ?w_len ?w_divmod ?w_range ?w_enumerate ?w_tuple ?w_reversed ?w_repr
    (case a1 => k_is)
    (case l1 => k_is)
    (case k1 => k_is)
    (case p1 => k_is)
    (case a2 => k_is)
    (case l2 => k_is)
    (case k2 => k_is)
    (case p2 => k_is)
    (case a3 => k_is)
    (case l3 => k_is)
    (case k3 => k_is)
    (case p3 => k_is)
    (case a4 => k_is)
    (case l4 => k_is)
    (case k4 => k_is)
    (case p4 => k_is)
    (case a5 => k_is)
    (case l5 => k_is)
    (case k5 => k_is)
    (case p5 => k_is)
    (case a6 => k_is)
    (case l6 => k_is)
    (case k6 => k_is)
    (case p6 => k_is)
    (case a7 => k_is)
    (case l7 => k_is)
    (case k7 => k_is)
    (case p7 => k_is)
    (case a8 => k_is)
    (case l8 => k_is)
    (case k8 => k_is)
    (case p8 => k_is)
    (case a9 => k_is)
    (case l9 => k_is)
    (case k9 => k_is)
    (case p9 => k_is)
    (case a10 => k_is)
    (case l10 => k_is)
    (case k10 => k_is)
    (case p10 => k_is)
    (case a11 => k_is)
    (case l11 => k_is)
    (case k11 => k_is)
    (case p11 => k_is)
    (case a12 => k_is)
    (case l12 => k_is)
    (case k12 => k_is)
    (case p12 => k_is)
    (case a13 => k_is)
    (case l13 => k_is)
    (case k13 => k_is)
    (case p13 => k_is)
    (case a14 => k_is)
    (case l14 => k_is)
    (case k14 => k_is)
    (case p14 => k_is)
    (case a15 => k_is)
    (case l15 => k_is)
    (case k15 => k_is)
    (case p15 => k_is)
    (case w_list => k_is)
    (case w_len => k_is)
    (case w_divmod => k_is)
    (case w_range => k_is)
    (case w_enumerate => k_is)
    (case w_tuple => k_is)
    (case w_reversed => k_is)
    (case w_repr => k_is)

