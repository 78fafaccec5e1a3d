import PyProof.Rows.All
import Wide.All
import OpenK.AllK
import Wide.FinOn
import HandS.ForMost
import HandS.Walk
import HandS.Exc
import HandS.Wide
import HandS.IsInst
import HandS.TupAny
import HandS.TupLe
import HandS.ExcOwn
import HandS.WordsExc
import HandS.EndBits
import PySem.Challenge.RW_joinback_k01_steps_counted
set_option Elab.async false
set_option linter.all false
set_option maxRecDepth 100000
namespace VS
open PySem L2

/-- how a node is held: mine, lent by the caller, fixed for good, locked while a loop walks it -/
inductive Fl where | m | l | f | k
deriving DecidableEq

/-- a tree of data -/
inductive D where
  | non
  | bl (b : Bool)
  | int (i : Int)
  | str (s : Str)
  | ty (n : String)
  | tup (ds : List D)
  | lst (g : Fl) (ds : List D)
  | dct (g : Fl) (ks : List Key) (ds : List D)
  | obj (g : Fl) (c : Str) (ns : List Str) (ds : List D)

abbrev Env := List (Option D)
abbrev FPs := List (List Addr)

structure Ctx where
  K : PySem.W.Frag
  mg : Str → Option Value
  H0 : Hp
  A : List Addr
  Lk : List Addr

def Mutb : HO → Prop
  | .lst _ => True
  | .dK _ => True
  | .ins _ _ _ => True
  | _ => False

/-- tuples and what is locked stay -/
structure Mono (H H' : Hp) : Prop where
  t : ∀ a xs, H a = some (.tup xs) → H' a = some (.tup xs)
  z : ∀ a o u, H a = some (.frz o u) → H' a = some (.frz o u)
theorem Mono.refl (H : Hp) : Mono H H := ⟨fun _ _ h => h, fun _ _ _ h => h⟩
theorem Mono.trans {H H1 H2 : Hp} (a : Mono H H1) (b : Mono H1 H2) : Mono H H2 := ⟨fun x y h => b.t x y (a.t x y h), fun x y z h => b.z x y z (a.z x y z h)⟩
theorem Mono.upd {H : Hp} {a : Addr} {u o : HO} (h : H a = some u) (mu : Mutb u) : Mono H (upd H a o) := by
  constructor
  · intro b xs e
    have : b ≠ a := by rintro rfl; rw [h] at e; cases e; exact mu
    rw [upd_ne this]; exact e
  · intro b x y e
    have : b ≠ a := by rintro rfl; rw [h] at e; cases e; exact mu
    rw [upd_ne this]; exact e
theorem Mono.new {H : Hp} {a : Addr} {o : HO} (h : H a = none) : Mono H (L2.upd H a o) := by
  constructor
  · intro b xs e
    rw [upd_ne (ne_of_none e h)]; exact e
  · intro b x y e
    rw [upd_ne (ne_of_none e h)]; exact e

/-- a list that the module's top has written -/
def KL (K : PySem.W.Frag) (a : Addr) (xs : List V) : Prop :=
  ∃ (o : Obj) (its : Array Value) (n : Nat), K.lookup a = some o ∧ o.cls = .type "list" ∧ o.dict = none ∧ o.data = .seq its n ∧ its.size ≤ sizeLine ∧ Vals xs its.toList
def RdK (K : PySem.W.Frag) (H : Hp) (a : Addr) (u : HO) : Prop := Rd H a u ∨ ∃ xs, u = .lst xs ∧ KL K a xs
theorem RdK.sql {K H a xs} (h : RdK K H a (.lst xs)) : SqL K H a xs := by
  rcases h with h | ⟨ys, e, h⟩
  · exact .inl h
  · cases e; exact .inr h
theorem RdK.rd {K H a u} (h : RdK K H a u) (n : ∀ xs, u ≠ .lst xs) : Rd H a u := by
  rcases h with h | ⟨ys, e, h⟩
  · exact h
  · exact absurd e (n ys)
/-- a node at a with content u, its own footprint -/
def Nd (C : Ctx) (H : Hp) : Fl → Addr → HO → List Addr → Prop
  | .m, a, u, fp => H a = some u ∧ fp = [a]
  | .l, a, u, fp => ((Rd C.H0 a u ∧ a ∉ C.A) ∨ ∃ xs, u = .lst xs ∧ KL C.K a xs) ∧ fp = []
  | .f, a, u, fp => (∃ o, H a = some (.frz o u)) ∧ a ∉ C.Lk ∧ fp = []
  | .k, a, u, fp => (∃ o, H a = some (.frz o u)) ∧ a ∈ C.Lk ∧ fp = []

def clsOf (C : Ctx) (c : Str) (Ca : Addr) : Prop := C.mg c = some (.ref Ca)

mutual
def Rep (C : Ctx) (H : Hp) : D → V → List Addr → Prop
  | .non, v, fp => v = .non ∧ fp = []
  | .bl b, v, fp => v = .bl b ∧ fp = []
  | .int i, v, fp => v = .int i ∧ fp = []
  | .str s, v, fp => v = .str s ∧ fp = []
  | .ty s, v, fp => v = .ty s ∧ fp = []
  | .tup ds, v, fp => ∃ a vs, v = .ref a ∧ SqT C.K H a vs ∧ Reps C H ds vs fp
  | .lst g ds, v, fp => ∃ a vs f1 f2, v = .ref a ∧ Nd C H g a (.lst vs) f1 ∧ Reps C H ds vs f2 ∧ (g = .m ∨ f2 = []) ∧ fp = f1 ++ f2
  | .dct g ks ds, v, fp => ∃ a kvs f1 f2, v = .ref a ∧ Nd C H g a (.dK kvs) f1 ∧ (kvs.map (·.1) = ks ∧ ks.Nodup) ∧ Reps C H ds (kvs.map (·.2)) f2 ∧ (g = .m ∨ f2 = []) ∧ fp = f1 ++ f2
  | .obj g c ns ds, v, fp => ∃ a Ca dx fs f1 f2, v = .ref a ∧ clsOf C c Ca ∧ Nd C H g a (.ins Ca dx fs) f1 ∧ fs.map (·.1) = ns ∧ Reps C H ds (fs.map (·.2)) f2 ∧ (g = .m ∨ f2 = []) ∧ fp = f1 ++ f2
def Reps (C : Ctx) (H : Hp) : List D → List V → List Addr → Prop
  | [], vs, fp => vs = [] ∧ fp = []
  | d :: ds, vs, fp => ∃ v vs' f1 f2, vs = v :: vs' ∧ Rep C H d v f1 ∧ Reps C H ds vs' f2 ∧ fp = f1 ++ f2
end

mutual
/-- no node of mine, none locked: it may be shared -/
def D.imm : D → Bool
  | .tup ds => imms ds
  | .lst g ds => (g == .l || g == .f) && imms ds
  | .dct g _ ds => (g == .l || g == .f) && imms ds
  | .obj g _ _ ds => (g == .l || g == .f) && imms ds
  | _ => true
def imms : List D → Bool
  | [] => true
  | d :: ds => d.imm && imms ds
end
mutual
/-- nothing lent, nothing locked -/
def D.nol : D → Bool
  | .tup ds => nols ds
  | .lst g ds => (g == .m || g == .f) && nols ds
  | .dct g _ ds => (g == .m || g == .f) && nols ds
  | .obj g _ _ ds => (g == .m || g == .f) && nols ds
  | _ => true
def nols : List D → Bool
  | [] => true
  | d :: ds => d.nol && nols ds
end
def Fl.lend : Fl → Fl
  | .f => .f
  | _ => .l
def Fl.fix : Fl → Fl
  | .m => .f
  | g => g
mutual
def D.lend : D → D
  | .tup ds => .tup (lends ds)
  | .lst g ds => .lst g.lend (lends ds)
  | .dct g ks ds => .dct g.lend ks (lends ds)
  | .obj g c ns ds => .obj g.lend c ns (lends ds)
  | d => d
def lends : List D → List D
  | [] => []
  | d :: ds => d.lend :: lends ds
end
mutual
def D.fix : D → D
  | .tup ds => .tup (fixs ds)
  | .lst g ds => .lst g.fix (fixs ds)
  | .dct g ks ds => .dct g.fix ks (fixs ds)
  | .obj g c ns ds => .obj g.fix c ns (fixs ds)
  | d => d
def fixs : List D → List D
  | [] => []
  | d :: ds => d.fix :: fixs ds
end

section
variable {C : Ctx} {H H' : Hp}
theorem Nd.keep {g a u fp} (n : Nd C H g a u fp) (hk : ∀ b ∈ fp, H' b = H b) (hm : Mono H H') : Nd C H' g a u fp := by
  cases g with
  | m => obtain ⟨e, rfl⟩ := n; exact ⟨by rw [hk a (by simp)]; exact e, rfl⟩
  | l => exact n
  | f => obtain ⟨⟨o, e⟩, x, rfl⟩ := n; exact ⟨⟨o, hm.z _ _ _ e⟩, x, rfl⟩
  | k => obtain ⟨⟨o, e⟩, x, rfl⟩ := n; exact ⟨⟨o, hm.z _ _ _ e⟩, x, rfl⟩
theorem sqt_keep {K a xs} (h : SqT K H a xs) (hm : Mono H H') : SqT K H' a xs := by
  rcases h with (h | ⟨o, h⟩) | h
  · exact .inl (.inl (hm.t _ _ h))
  · exact .inl (.inr ⟨o, hm.z _ _ _ h⟩)
  · exact .inr h
mutual
theorem Rep.keep : ∀ {d : D} {v : V} {fp : List Addr}, Rep C H d v fp → (∀ a ∈ fp, H' a = H a) → Mono H H' → Rep C H' d v fp
  | .non, v, fp, h, _, _ => h
  | .bl b, v, fp, h, _, _ => h
  | .int i, v, fp, h, _, _ => h
  | .str s, v, fp, h, _, _ => h
  | .ty s, v, fp, h, _, _ => h
  | .tup ds, v, fp, ⟨a, vs, e, t, r⟩, hk, hm => ⟨a, vs, e, sqt_keep t hm, Reps.keep r hk hm⟩
  | .lst g ds, v, fp, ⟨a, vs, f1, f2, e, n, r, z, e2⟩, hk, hm => ⟨a, vs, f1, f2, e, n.keep (fun b hb => hk b (by rw [e2]; exact List.mem_append_left _ hb)) hm, Reps.keep r (fun b hb => hk b (by rw [e2]; exact List.mem_append_right _ hb)) hm, z, e2⟩
  | .dct g ks ds, v, fp, ⟨a, vs, f1, f2, e, n, q, r, z, e2⟩, hk, hm => ⟨a, vs, f1, f2, e, n.keep (fun b hb => hk b (by rw [e2]; exact List.mem_append_left _ hb)) hm, q, Reps.keep r (fun b hb => hk b (by rw [e2]; exact List.mem_append_right _ hb)) hm, z, e2⟩
  | .obj g c ns ds, v, fp, ⟨a, Ca, dx, fs, f1, f2, e, c1, n, q, r, z, e2⟩, hk, hm => ⟨a, Ca, dx, fs, f1, f2, e, c1, n.keep (fun b hb => hk b (by rw [e2]; exact List.mem_append_left _ hb)) hm, q, Reps.keep r (fun b hb => hk b (by rw [e2]; exact List.mem_append_right _ hb)) hm, z, e2⟩
theorem Reps.keep : ∀ {ds : List D} {vs : List V} {fp : List Addr}, Reps C H ds vs fp → (∀ a ∈ fp, H' a = H a) → Mono H H' → Reps C H' ds vs fp
  | [], vs, fp, h, _, _ => h
  | d :: ds, vs, fp, ⟨v, vs', f1, f2, e, r, rs, e2⟩, hk, hm => ⟨v, vs', f1, f2, e, Rep.keep r (fun b hb => hk b (by rw [e2]; exact List.mem_append_left _ hb)) hm, Reps.keep rs (fun b hb => hk b (by rw [e2]; exact List.mem_append_right _ hb)) hm, e2⟩
end
theorem Nd.imm {g a u fp} (n : Nd C H g a u fp) (h : (g == .l || g == .f) = true) : fp = [] := by
  cases g with
  | m => cases h
  | l => exact n.2
  | f => exact n.2.2
  | k => cases h
mutual
theorem Rep.imm : ∀ {d : D} {v : V} {fp : List Addr}, Rep C H d v fp → d.imm = true → fp = []
  | .non, v, fp, h, _ => h.2
  | .bl b, v, fp, h, _ => h.2
  | .int i, v, fp, h, _ => h.2
  | .str s, v, fp, h, _ => h.2
  | .ty s, v, fp, h, _ => h.2
  | .tup ds, v, fp, ⟨a, vs, e, t, r⟩, hi => Reps.imm r hi
  | .lst g ds, v, fp, ⟨a, vs, f1, f2, e, n, r, z, e2⟩, hi => by
    have h := Bool.and_eq_true_iff.mp hi
    rw [e2, n.imm h.1, Reps.imm r h.2]; rfl
  | .dct g ks ds, v, fp, ⟨a, vs, f1, f2, e, n, q, r, z, e2⟩, hi => by
    have h := Bool.and_eq_true_iff.mp hi
    rw [e2, n.imm h.1, Reps.imm r h.2]; rfl
  | .obj g c ns ds, v, fp, ⟨a, Ca, dx, fs, f1, f2, e, c1, n, q, r, z, e2⟩, hi => by
    have h := Bool.and_eq_true_iff.mp hi
    rw [e2, n.imm h.1, Reps.imm r h.2]; rfl
theorem Reps.imm : ∀ {ds : List D} {vs : List V} {fp : List Addr}, Reps C H ds vs fp → imms ds = true → fp = []
  | [], vs, fp, h, _ => h.2
  | d :: ds, vs, fp, ⟨v, vs', f1, f2, e, r, rs, e2⟩, hi => by
    have h := Bool.and_eq_true_iff.mp hi
    rw [e2, Rep.imm r h.1, Reps.imm rs h.2]; rfl
end
end

section
variable {C : Ctx} {H H' : Hp}
theorem Nd.trk {g a u fp} (n : Nd C H g a u fp) (mu : Mutb u) : ∀ b ∈ fp, ∃ o, H b = some o ∧ Mutb o := by
  cases g with
  | m => obtain ⟨e, rfl⟩ := n; intro b hb; simp at hb; subst hb; exact ⟨u, e, mu⟩
  | l => obtain ⟨_, rfl⟩ := n; intro b hb; cases hb
  | f => obtain ⟨_, _, rfl⟩ := n; intro b hb; cases hb
  | k => obtain ⟨_, _, rfl⟩ := n; intro b hb; cases hb
mutual
theorem Rep.trk : ∀ {d : D} {v : V} {fp : List Addr}, Rep C H d v fp → ∀ b ∈ fp, ∃ o, H b = some o ∧ Mutb o
  | .non, v, fp, h => by rw [h.2]; intro b hb; cases hb
  | .bl b, v, fp, h => by rw [h.2]; intro b hb; cases hb
  | .int i, v, fp, h => by rw [h.2]; intro b hb; cases hb
  | .str s, v, fp, h => by rw [h.2]; intro b hb; cases hb
  | .ty s, v, fp, h => by rw [h.2]; intro b hb; cases hb
  | .tup ds, v, fp, ⟨a, vs, e, t, r⟩ => Reps.trk r
  | .lst g ds, v, fp, ⟨a, vs, f1, f2, e, n, r, z, e2⟩ => fun b hb => by
    rw [e2] at hb
    exact (List.mem_append.mp hb).elim (Nd.trk n trivial b) (Reps.trk r b)
  | .dct g ks ds, v, fp, ⟨a, vs, f1, f2, e, n, q, r, z, e2⟩ => fun b hb => by
    rw [e2] at hb
    exact (List.mem_append.mp hb).elim (Nd.trk n trivial b) (Reps.trk r b)
  | .obj g c ns ds, v, fp, ⟨a, Ca, dx, fs, f1, f2, e, c1, n, q, r, z, e2⟩ => fun b hb => by
    rw [e2] at hb
    exact (List.mem_append.mp hb).elim (Nd.trk n trivial b) (Reps.trk r b)
theorem Reps.trk : ∀ {ds : List D} {vs : List V} {fp : List Addr}, Reps C H ds vs fp → ∀ b ∈ fp, ∃ o, H b = some o ∧ Mutb o
  | [], vs, fp, h => by rw [h.2]; intro b hb; cases hb
  | d :: ds, vs, fp, ⟨v, vs', f1, f2, e, r, rs, e2⟩ => fun b hb => by
    rw [e2] at hb
    exact (List.mem_append.mp hb).elim (Rep.trk r b) (Reps.trk rs b)
end

/-- what stood at the entry and isn't ours stands (a locked thing is locked) -/
def Fr (C : Ctx) (H : Hp) : Prop := ∀ a o, C.H0 a = some o → a ∉ C.A → H a = some o ∨ (a ∈ C.Lk ∧ Mutb o ∧ ∃ ob, H a = some (.frz ob o))

theorem Nd.rd {g a u fp} (n : Nd C H g a u fp) (f : Fr C H) : RdK C.K H a u := by
  cases g with
  | m => exact .inl (.inl n.1)
  | l =>
    obtain ⟨⟨h | ⟨o, h⟩, na⟩ | h, _⟩ := n
    · rcases f a _ h na with q | ⟨_, _, ob, q⟩
      · exact .inl (.inl q)
      · exact .inl (.inr ⟨ob, q⟩)
    · rcases f a _ h na with q | ⟨_, mu, ob, q⟩
      · exact .inl (.inr ⟨o, q⟩)
      · exact mu.elim
    · exact .inr h
  | f => exact .inl (.inr n.1)
  | k => exact .inl (.inr n.1)
/-- the state is as env tells: fs the footprints by slots, tf those of what is held beside -/
structure Good (C : Ctx) (fs : FPs) (env : Env) (σ : St) (H : Hp) (tf : List Addr) : Prop where
  le : env.length = σ.length
  lf : fs.length = σ.length
  rep : ∀ i d, env[i]? = some (some d) → ∃ v, σ[i]? = some (some v) ∧ Rep C H d v (fs.getD i [])
  nd : (fs.flatten ++ tf).Nodup
  own : ∀ a ∈ fs.flatten ++ tf, a ∈ C.A ∨ C.H0 a = none
  trk : ∀ a ∈ fs.flatten ++ tf, ∃ o, H a = some o ∧ Mutb o
  fr : Fr C H
  lk : ∀ a ∈ C.Lk, ∃ ob u, H a = some (.frz ob u)

/-- from state to state: slots not in M are as they were, what is held beside too -/
structure Step (M : List Nat) (tf : List Addr) (fs : FPs) (env : Env) (H : Hp) (fs' : FPs) (env' : Env) (H' : Hp) : Prop where
  t : ∀ a ∈ tf, H' a = H a
  f : ∀ i, i ∉ M → fs'.getD i [] = fs.getD i []
  e : ∀ i, i ∉ M → env'[i]? = env[i]?
  h : ∀ i, i ∉ M → ∀ a ∈ fs.getD i [], H' a = H a
  m : Mono H H'
theorem Step.refl {M tf fs env H} : Step M tf fs env H fs env H := ⟨fun _ _ => rfl, fun _ _ => rfl, fun _ _ => rfl, fun _ _ _ _ => rfl, .refl H⟩
theorem Step.trans {M1 M2 tf fs env H fs1 env1 H1 fs2 env2 H2} (a : Step M1 tf fs env H fs1 env1 H1) (b : Step M2 tf fs1 env1 H1 fs2 env2 H2) : Step (M1 ++ M2) tf fs env H fs2 env2 H2 := by
  refine ⟨fun x hx => (b.t x hx).trans (a.t x hx), fun i hi => ?_, fun i hi => ?_, fun i hi x hx => ?_, a.m.trans b.m⟩
  all_goals rw [List.mem_append, not_or] at hi
  · exact (b.f i hi.2).trans (a.f i hi.1)
  · exact (b.e i hi.2).trans (a.e i hi.1)
  · exact (b.h i hi.2 x (by rw [a.f i hi.1]; exact hx)).trans (a.h i hi.1 x hx)
theorem Step.weak {M M' tf tf' fs env H fs1 env1 H1} (a : Step M tf fs env H fs1 env1 H1) (h : ∀ i ∈ M, i ∈ M') (ht : ∀ x ∈ tf', x ∈ tf) : Step M' tf' fs env H fs1 env1 H1 :=
  ⟨fun x hx => a.t x (ht x hx), fun i hi => a.f i fun z => hi (h i z), fun i hi => a.e i fun z => hi (h i z), fun i hi => a.h i fun z => hi (h i z), a.m⟩

theorem flat_set (fs : FPs) {i : Nat} (hi : i < fs.length) (x : List Addr) : (fs.set i x).flatten.Perm (x ++ (fs.set i []).flatten) := by
  induction fs generalizing i with
  | nil => cases hi
  | cons f fs ih =>
    cases i with
    | zero => simp
    | succ i =>
      simp only [List.set_cons_succ, List.flatten_cons]
      refine ((ih (by simpa using hi)).append_left f).trans ?_
      rw [← List.append_assoc, ← List.append_assoc]
      exact List.perm_append_comm.append_right _
theorem flat_get (fs : FPs) {i : Nat} (hi : i < fs.length) : fs.flatten.Perm (fs.getD i [] ++ (fs.set i []).flatten) := by
  have e : fs.set i (fs.getD i []) = fs := by
    rw [List.getD_eq_getElem?_getD, List.getElem?_eq_getElem hi]; simp
  have := flat_set fs hi (fs.getD i [])
  rwa [e] at this
theorem getD_set (fs : FPs) (i j : Nat) (x : List Addr) (hi : i < fs.length) : (fs.set i x).getD j [] = if j = i then x else fs.getD j [] := by
  rw [List.getD_eq_getElem?_getD, List.getElem?_set, List.getD_eq_getElem?_getD]
  by_cases e : j = i
  · subst e; simp [hi]
  · simp [e, Ne.symm e]
theorem mem_flat {fs : FPs} {i : Nat} {a : Addr} (h : a ∈ fs.getD i []) : a ∈ fs.flatten := by
  rw [List.getD_eq_getElem?_getD] at h
  cases q : fs[i]? with
  | none => rw [q] at h; simp at h
  | some x => rw [q] at h; exact List.mem_flatten.mpr ⟨x, List.mem_of_getElem? q, by simpa using h⟩
theorem Good.lt {fs env σ tf i d} (G : Good C fs env σ H tf) (h : env[i]? = some (some d)) : i < fs.length := by
  have := (List.getElem?_eq_some_iff.mp h).1
  rw [G.lf, ← G.le]; exact this
/-- slots' footprints stand apart -/
theorem Good.apart {fs env σ tf} (G : Good C fs env σ H tf) {i j : Nat} {a : Addr} (hij : i ≠ j) (hi : a ∈ fs.getD i []) : a ∉ fs.getD j [] := fun hj => by
  have lt : ∀ k : Nat, a ∈ fs.getD k [] → k < fs.length := fun k hk => by
    rw [List.getD_eq_getElem?_getD] at hk
    cases q : fs[k]? with
    | none => rw [q] at hk; simp at hk
    | some x => exact (List.getElem?_eq_some_iff.mp q).1
  have p := flat_get fs (lt i hi)
  have nd := (List.nodup_append.mp G.nd).1
  have nd2 := p.nodup_iff.mp nd
  have dj := (List.nodup_append.mp nd2).2.2 a hi a
  refine dj ?_ rfl
  have : a ∈ (fs.set i []).getD j [] := by rw [getD_set fs i j [] (lt i hi), if_neg (Ne.symm hij)]; exact hj
  exact mem_flat this
theorem Good.apartT {fs env σ tf} (G : Good C fs env σ H tf) {i : Nat} {a : Addr} (hi : a ∈ fs.getD i []) : a ∉ tf := fun hj =>
  (List.nodup_append.mp G.nd).2.2 a (mem_flat hi) a hj rfl
end
end VS

set_option maxRecDepth 100000
namespace VS
open PySem L2

structure Exn where
  cls : Str
  pay : Option (Str × D)

inductive R (α : Type) where
  | ok (a : α) (e : Env)
  | ex (x : Exn) (e : Env)
  | err
def R.bind {α β : Type} (r : R α) (f : α → Env → R β) : R β :=
  match r with
  | .ok a e => f a e
  | .ex x e => .ex x e
  | .err => .err
def R.of {α : Type} (o : Option α) (e : Env) : R α :=
  match o with
  | some a => .ok a e
  | none => .err
abbrev CE := Env → R D
abbrev CA := Env → R (List D)

def Ctx.At (C : Ctx) (X : Cx) : Prop := C.K = X.K ∧ C.mg = X.mg

def ExIs (C : Ctx) (x : Exn) (cv : Value) (dd : Option Addr) (H : Hp) : Prop :=
  ∃ Ca, C.mg x.cls = some (.ref Ca) ∧ cv = .ref Ca ∧
    match x.pay with
    | none => dd = none
    | some (f, d) => ∃ da v, dd = some da ∧ H da = some (.xd [(f, v)]) ∧ d.nol = true ∧ Rep C H d v []

section
variable (X : Cx) (W : WX) (C : Ctx)
def PostO (M : List Nat) (tf : List Addr) (fs : FPs) (env : Env) (σ : St) (H : Hp) (Q : VK) : R D → Prop
  | .ok d env' => ∀ v fs' H' fp, Good C fs' env' σ H' (fp ++ tf) → Step M tf fs env H fs' env' H' → Rep C H' d v fp → Q v H'
  | .ex x env' => ∀ cv dd fs' H', Good C fs' env' σ H' tf → Step M tf fs env H fs' env' H' → ExIs C x cv dd H' → W cv dd σ H'
  | .err => False
/-- where an operand's own nodes are -/
def In (R : List Nat) (own : List Addr) (fs : FPs) (fp : List Addr) : Prop := ∀ a ∈ fp, a ∈ own ∨ ∃ r ∈ R, a ∈ fs.getD r []
def PostB (M Rs : List Nat) (tf : List Addr) (fs : FPs) (env : Env) (σ : St) (H : Hp) (Q : VK) : R D → Prop
  | .ok d env' => ∀ v fs' H' fp own, Good C fs' env' σ H' (own ++ tf) → Step M tf fs env H fs' env' H' → Rep C H' d v fp → In Rs own fs' fp → Q v H'
  | .ex x env' => ∀ cv dd fs' H', Good C fs' env' σ H' tf → Step M tf fs env H fs' env' H' → ExIs C x cv dd H' → W cv dd σ H'
  | .err => False
def PostA (M Rs : List Nat) (tf : List Addr) (fs : FPs) (env : Env) (σ : St) (H : Hp) (Q : List V → Hp → Prop) : R (List D) → Prop
  | .ok ds env' => ∀ vs fs' H' fp own, Good C fs' env' σ H' (own ++ tf) → Step M tf fs env H fs' env' H' → Reps C H' ds vs fp → In Rs own fs' fp → Q vs H'
  | .ex x env' => ∀ cv dd fs' H', Good C fs' env' σ H' tf → Step M tf fs env H fs' env' H' → ExIs C x cv dd H' → W cv dd σ H'
  | .err => False
end
/-- an expression whose value is owned -/
structure SO (X : Cx) (W : WX) (M : List Nat) (e : Expr) (c : CE) : Prop where
  go : ∃ t, PE X e t ∧ ∀ C fs env σ H tf Q, C.At X → Good C fs env σ H tf → PostO W C M tf fs env σ H Q (c env) → t σ H Q
/-- an operand: it is looked at, it may lie within the slots Rs -/
structure SB (X : Cx) (W : WX) (M Rs : List Nat) (e : Expr) (c : CE) : Prop where
  go : ∃ t, PE X e t ∧ ∀ C fs env σ H tf Q, C.At X → Good C fs env σ H tf → PostB W C M Rs tf fs env σ H Q (c env) → t σ H Q
structure SA (X : Cx) (W : WX) (M Rs : List Nat) (es : List Expr) (c : CA) : Prop where
  go : ∃ t, PA X es t ∧ ∀ C fs env σ H tf Q, C.At X → Good C fs env σ H tf → PostA W C M Rs tf fs env σ H Q (c env) → t σ H Q

def Le (H H' : Hp) : Prop := ∀ a o, H a = some o → H' a = some o
theorem Le.refl (H : Hp) : Le H H := fun _ _ h => h
theorem Le.trans {H H1 H2 : Hp} (a : Le H H1) (b : Le H1 H2) : Le H H2 := fun x o h => b x o (a x o h)
theorem Le.new {H : Hp} {a : Addr} {o : HO} (h : H a = none) : Le H (upd H a o) := fun b u e => by rw [upd_ne (ne_of_none e h)]; exact e
theorem Le.mono {H H' : Hp} (h : Le H H') : Mono H H' := ⟨fun a xs e => h a _ e, fun a o u e => h a _ e⟩
theorem Le.at {H H' : Hp} (h : Le H H') {a : Addr} {P : HO → Prop} (t : ∃ o, H a = some o ∧ P o) : H' a = H a := by
  obtain ⟨o, e, _⟩ := t
  rw [e]; exact h a o e

section
variable {C : Ctx} {H H' H1 H2 : Hp} {fs fs' : FPs} {env env' : Env} {σ : St} {tf fp own : List Addr} {M Rs : List Nat}
theorem Rep.le {d v} (r : Rep C H d v fp) (h : Le H H') : Rep C H' d v fp := r.keep (fun a ha => h.at (r.trk a ha)) h.mono
theorem Reps.le {ds vs} (r : Reps C H ds vs fp) (h : Le H H') : Reps C H' ds vs fp := r.keep (fun a ha => h.at (r.trk a ha)) h.mono
theorem Fr.le (f : Fr C H) (h : Le H H') : Fr C H' := fun a o e na => by
  rcases f a o e na with q | ⟨q1, q2, ob, q3⟩
  · exact .inl (h _ _ q)
  · exact .inr ⟨q1, q2, ob, h _ _ q3⟩
theorem Fr.fresh (f : Fr C H) {a : Addr} (n : H a = none) : a ∈ C.A ∨ C.H0 a = none := by
  by_cases ha : a ∈ C.A
  · exact .inl ha
  · cases q : C.H0 a with
    | none => exact .inr rfl
    | some o =>
      rcases f a o q ha with z | ⟨_, _, ob, z⟩
      · rw [n] at z; cases z
      · rw [n] at z; cases z
/-- the heap has grown by fp -/
theorem Good.grow (G : Good C fs env σ H tf) (h : Le H H') (nd : fp.Nodup) (nw : ∀ a ∈ fp, H a = none) (tk : ∀ a ∈ fp, ∃ o, H' a = some o ∧ Mutb o) : Good C fs env σ H' (fp ++ tf) where
  le := G.le
  lf := G.lf
  rep := fun i d e => let ⟨v, e1, r⟩ := G.rep i d e; ⟨v, e1, r.le h⟩
  nd := by
    have p : (fs.flatten ++ (fp ++ tf)).Perm (fp ++ (fs.flatten ++ tf)) := by
      rw [← List.append_assoc, ← List.append_assoc]
      exact List.perm_append_comm.append_right _
    refine p.nodup_iff.mpr (List.nodup_append.mpr ⟨nd, G.nd, fun a ha b hb e => ?_⟩)
    subst e
    obtain ⟨o, q, _⟩ := G.trk a hb
    rw [nw a ha] at q; cases q
  own := fun a ha => by
    rcases List.mem_append.mp ha with z | z
    · exact G.own a (List.mem_append_left _ z)
    · rcases List.mem_append.mp z with z | z
      · exact G.fr.fresh (nw a z)
      · exact G.own a (List.mem_append_right _ z)
  trk := fun a ha => by
    rcases List.mem_append.mp ha with z | z
    · obtain ⟨o, q, mu⟩ := G.trk a (List.mem_append_left _ z)
      exact ⟨o, h _ _ q, mu⟩
    · rcases List.mem_append.mp z with z | z
      · exact tk a z
      · obtain ⟨o, q, mu⟩ := G.trk a (List.mem_append_right _ z)
        exact ⟨o, h _ _ q, mu⟩
  fr := G.fr.le h
  lk := fun a ha => let ⟨ob, u, e⟩ := G.lk a ha; ⟨ob, u, h _ _ e⟩
theorem Good.le' (G : Good C fs env σ H tf) (h : Le H H') : Good C fs env σ H' tf := G.grow (fp := []) h .nil (fun _ z => nomatch z) fun _ z => nomatch z
/-- what is held beside may be dropped -/
theorem Good.sub {tf' : List Addr} (G : Good C fs env σ H tf) (h : tf'.Sublist tf) : Good C fs env σ H tf' where
  le := G.le
  lf := G.lf
  rep := G.rep
  nd := G.nd.sublist ((List.Sublist.refl _).append h)
  own := fun a ha => G.own a (by
    rcases List.mem_append.mp ha with z | z
    · exact List.mem_append_left _ z
    · exact List.mem_append_right _ (h.subset z))
  trk := fun a ha => G.trk a (by
    rcases List.mem_append.mp ha with z | z
    · exact List.mem_append_left _ z
    · exact List.mem_append_right _ (h.subset z))
  fr := G.fr
  lk := G.lk
theorem Good.drop (G : Good C fs env σ H (own ++ tf)) : Good C fs env σ H tf := G.sub (List.sublist_append_right _ _)
theorem Step.grow (G : Good C fs env σ H tf) (h : Le H H') : Step M tf fs env H fs env H' :=
  ⟨fun a ha => h.at (G.trk a (List.mem_append_right _ ha)), fun _ _ => rfl, fun _ _ => rfl, fun i _ a ha => h.at (G.trk a (List.mem_append_left _ (mem_flat ha))), h.mono⟩
/-- an operand stands through a later step that leaves its slots -/
theorem In.keep (hi : In Rs own fs fp) (s : Step M (own ++ tf) fs env H1 fs' env' H2) (hd : ∀ r ∈ Rs, r ∉ M) : ∀ a ∈ fp, H2 a = H1 a := fun a ha => by
  rcases hi a ha with z | ⟨r, hr, z⟩
  · exact s.t a (List.mem_append_left _ z)
  · exact s.h r (hd r hr) a z
theorem In.step {own2 : List Addr} (hi : In Rs own fs fp) (s : Step M (own ++ tf) fs env H1 fs' env' H2) (hd : ∀ r ∈ Rs, r ∉ M) : In Rs (own2 ++ own) fs' fp := fun a ha => by
  rcases hi a ha with z | ⟨r, hr, z⟩
  · exact .inl (List.mem_append_right _ z)
  · exact .inr ⟨r, hr, by rw [s.f r (hd r hr)]; exact z⟩
theorem In.mono {Rs' : List Nat} {own' : List Addr} (hi : In Rs own fs fp) (h : ∀ r ∈ Rs, r ∈ Rs') (ho : ∀ a ∈ own, a ∈ own') : In Rs' own' fs fp := fun a ha => by
  rcases hi a ha with z | ⟨r, hr, z⟩
  · exact .inl (ho a z)
  · exact .inr ⟨r, h r hr, z⟩
end

def djB (Rs M : List Nat) : Bool := Rs.all fun r => !M.contains r
theorem djB_ok {Rs M : List Nat} (h : djB Rs M = true) : ∀ r ∈ Rs, r ∉ M := fun r hr hm => by
  have := List.all_eq_true.mp h r hr
  simp [hm] at this

section
variable {X : Cx} {W : WX} {M M1 M2 Rs R1 R2 : List Nat} {e a b : Expr} {es : List Expr} {ca cb : CE} {cs : CA}
/-- owned: looked at -/
theorem SO.sb (h : SO X W M e ca) : SB X W M [] e ca := by
  obtain ⟨t, p, q⟩ := h.go
  refine ⟨t, p, fun C fs env σ H tf Q hC G po => q C fs env σ H tf Q hC G ?_⟩
  cases e1 : ca env with
  | ok d env' =>
    rw [e1] at po
    exact fun v fs' H' fp G' s r => po v fs' H' fp fp G' s r fun x hx => .inl hx
  | ex x env' => rw [e1] at po; exact po
  | err => rw [e1] at po; exact po
/-- an operand without nodes of ours: owned -/
def cImm (c : CE) : CE := fun env => (c env).bind fun d env => if d.imm then .ok d env else .err
theorem SB.imm (h : SB X W M Rs e ca) : SO X W M e (cImm ca) := by
  obtain ⟨t, p, q⟩ := h.go
  refine ⟨t, p, fun C fs env σ H tf Q hC G po => q C fs env σ H tf Q hC G ?_⟩
  unfold cImm at po
  cases e1 : ca env with
  | ok d env' =>
    rw [e1] at po
    intro v fs' H' fp own G' s r hi
    have po' : PostO W C M tf fs env σ H Q (if d.imm then .ok d env' else .err) := po
    by_cases hd : d.imm = true
    · rw [if_pos hd] at po'
      have z := r.imm hd
      subst z
      exact po' v fs' H' [] (by simpa using G'.drop) s r
    · rw [if_neg hd] at po'; exact po'.elim
  | ex x env' => rw [e1] at po; exact po
  | err => rw [e1] at po; exact po
def cNil : CA := fun env => .ok [] env
def cCons (c : CE) (cs : CA) : CA := fun env => (c env).bind fun d env => (cs env).bind fun ds env => .ok (d :: ds) env
theorem sa_nil : SA X W [] [] [] cNil := by
  refine ⟨tNil, pa_nil, fun C fs env σ H tf Q hC G po => ?_⟩
  exact po [] fs H [] [] (by simpa using G) .refl ⟨rfl, rfl⟩ fun _ z => nomatch z
/-- two things in a row: the first is kept -/
theorem sa_cons (ha : SB X W M1 R1 a ca) (hr : SA X W M2 R2 es cs) (hd : djB R1 M2 = true := by decide) (hs : starEach (a :: es) X.env = (false, eval a X.env) :: starEach es X.env := by rfl) :
    SA X W (M1 ++ M2) (R1 ++ R2) (a :: es) (cCons ca cs) := by
  obtain ⟨t, p, q⟩ := ha.go
  obtain ⟨t2, p2, q2⟩ := hr.go
  refine ⟨tCons t t2, pa_cons p p2 hs, fun C fs env σ H tf Q hC G po => ?_⟩
  refine q C fs env σ H tf _ hC G ?_
  unfold cCons at po
  cases e1 : ca env with
  | err => rw [e1] at po; exact po
  | ex x env' =>
    rw [e1] at po
    exact fun cv dd fs' H' G' s => po cv dd fs' H' G' (s.weak (fun i hi => List.mem_append_left _ hi) fun _ z => z)
  | ok d env1 =>
    rw [e1] at po
    intro v fs1 H1 fp1 own1 G1 s1 r1 i1
    refine q2 C fs1 env1 σ H1 (own1 ++ tf) _ hC G1 ?_
    have po' : PostA W C (M1 ++ M2) (R1 ++ R2) tf fs env σ H Q ((cs env1).bind fun ds env => .ok (d :: ds) env) := po
    cases e2 : cs env1 with
    | err => rw [e2] at po'; exact po'
    | ex x env' =>
      rw [e2] at po'
      exact fun cv dd fs' H' G' s => po' cv dd fs' H' G'.drop (s1.trans (s.weak (fun _ z => z) fun x hx => List.mem_append_right _ hx))
    | ok ds env2 =>
      rw [e2] at po'
      intro vs fs2 H2 fp2 own2 G2 s2 r2 i2
      have po2 : ∀ vs fs' H' fp own, Good C fs' env2 σ H' (own ++ tf) → Step (M1 ++ M2) tf fs env H fs' env2 H' → Reps C H' (d :: ds) vs fp → In (R1 ++ R2) own fs' fp → Q vs H' := po'
      have k1 := i1.keep s2 (djB_ok hd)
      refine po2 (v :: vs) fs2 H2 (fp1 ++ fp2) (own2 ++ own1) (by rw [List.append_assoc]; exact G2) (s1.trans (s2.weak (fun _ z => z) fun x hx => List.mem_append_right _ hx)) ⟨v, vs, fp1, fp2, rfl, r1.keep k1 s2.m, r2, rfl⟩ ?_
      intro x hx
      rcases List.mem_append.mp hx with z | z
      · exact (i1.step (own2 := own2) s2 (djB_ok hd)).mono (fun r hr => List.mem_append_left _ hr) (fun _ z => z) x z
      · exact i2.mono (fun r hr => List.mem_append_right _ hr) (fun _ z => List.mem_append_left _ z) x z
end
end VS

set_option maxRecDepth 100000
namespace VS
open PySem L2

section
variable {X : Cx} {W : WX} {M M1 M2 M3 Rs R1 R2 R3 : List Nat} {e a b c : Expr} {es : List Expr} {ca cb cc : CE} {cs : CA} {pos : Pos}

/-! ### names, constants -/
def cVar (i : Nat) : CE := fun env => match env[i]? with
  | some (some d) => .ok d env
  | _ => .err
theorem sb_var (i : Nat) {x : Str} (hN : X.N[i]? = some x := by rfl) (hv : Vis X.env.scope x := by first | exact Or.inl rfl | exact Or.inr (Or.inl rfl) | exact Or.inr (Or.inr rfl)) (hd : (x == ("__debug__" : Str)) = false := by decide)
    (hcd : (x == ("__classdict__" : Str)) = false := by decide) : SB X W [] [i] (.Name x pos) (cVar i) := by
  refine ⟨tVar i, pe_var hN hv hd hcd, fun C fs env σ H tf Q hC G po => ?_⟩
  unfold cVar at po
  split at po
  · rename_i d e1
    obtain ⟨v, e2, r⟩ := G.rep i d e1
    exact ⟨v, e2, po v fs H _ [] (by simpa using G) .refl r fun a ha => .inr ⟨i, by simp, ha⟩⟩
  · exact po.elim
/-- a name's value is moved out -/
def cMv (i : Nat) : CE := fun env => match env[i]? with
  | some (some d) => .ok d (env.set i none)
  | _ => .err
theorem Good.mv {C : Ctx} {fs : FPs} {env : Env} {σ : St} {H : Hp} {tf : List Addr} {i : Nat} {d : D} (G : Good C fs env σ H tf) (h : env[i]? = some (some d)) :
    Good C (fs.set i []) (env.set i none) σ H (fs.getD i [] ++ tf) := by
  have hl := G.lt h
  have p : ((fs.set i []).flatten ++ (fs.getD i [] ++ tf)).Perm (fs.flatten ++ tf) := by
    rw [← List.append_assoc]
    refine List.Perm.append_right _ ?_
    exact (List.perm_append_comm).trans (flat_get fs hl).symm
  refine ⟨by simpa using G.le, by simpa using G.lf, fun j d' e => ?_, p.nodup_iff.mpr G.nd, fun a ha => G.own a (p.mem_iff.mp ha), fun a ha => G.trk a (p.mem_iff.mp ha), G.fr, G.lk⟩
  rw [List.getElem?_set] at e
  by_cases hj : i = j
  · subst hj; simp at e
  · rw [if_neg hj] at e
    obtain ⟨v, e1, r⟩ := G.rep j d' e
    exact ⟨v, e1, by rw [getD_set fs i j [] hl, if_neg (Ne.symm hj)]; exact r⟩
theorem so_mv (i : Nat) {x : Str} (hN : X.N[i]? = some x := by rfl) (hv : Vis X.env.scope x := by first | exact Or.inl rfl | exact Or.inr (Or.inl rfl) | exact Or.inr (Or.inr rfl)) (hd : (x == ("__debug__" : Str)) = false := by decide)
    (hcd : (x == ("__classdict__" : Str)) = false := by decide) : SO X W [i] (.Name x pos) (cMv i) := by
  refine ⟨tVar i, pe_var hN hv hd hcd, fun C fs env σ H tf Q hC G po => ?_⟩
  unfold cMv at po
  split at po
  · rename_i d e1
    obtain ⟨v, e2, r⟩ := G.rep i d e1
    refine ⟨v, e2, po v (fs.set i []) H _ (G.mv e1) ⟨fun _ _ => rfl, fun j hj => ?_, fun j hj => ?_, fun _ _ _ _ => rfl, .refl H⟩ r⟩
    · rw [getD_set fs i j [] (G.lt e1), if_neg (by simpa using hj)]
    · rw [List.getElem?_set, if_neg (by intro z; subst z; simp at hj)]
  · exact po.elim
def cK (d : D) : CE := fun env => .ok d env
theorem so_k {v : V} {d : D} {t : TE} (p : PE X e t) (ht : ∀ σ H Q, Q v H → t σ H Q) (hr : ∀ C H, Rep C H d v []) : SO X W [] e (cK d) :=
  ⟨t, p, fun C fs env σ H tf Q hC G po => ht σ H Q (po v fs H [] (by simpa using G) .refl (hr C H))⟩
theorem so_int {i j} : SO X W [] (.Constant (.int i) j pos) (cK (.int i)) := so_k pe_int (fun _ _ _ h => h) fun _ _ => ⟨rfl, rfl⟩
theorem so_bl {b j} : SO X W [] (.Constant (.bool b) j pos) (cK (.bl b)) := so_k pe_bl (fun _ _ _ h => h) fun _ _ => ⟨rfl, rfl⟩
theorem so_non {j} : SO X W [] (.Constant .none j pos) (cK .non) := so_k pe_non (fun _ _ _ h => h) fun _ _ => ⟨rfl, rfl⟩
theorem so_str {x j} : SO X W [] (.Constant (.str x) j pos) (cK (.str x)) := so_k pe_str (fun _ _ _ h => h) fun _ _ => ⟨rfl, rfl⟩

/-! ### two operands -/
def cTwo (ca cb : CE) : Env → R (D × D) := fun env => (ca env).bind fun x env => (cb env).bind fun y env => .ok (x, y) env
def c2 (p : D → D → Option D) (ca cb : CE) : CE := fun env => (cTwo ca cb env).bind fun xy env => R.of (p xy.1 xy.2) env
def Post2 (W : WX) (C : Ctx) (M R1 R2 : List Nat) (tf : List Addr) (fs : FPs) (env : Env) (σ : St) (H : Hp) (Q : V → V → Hp → Prop) : R (D × D) → Prop
  | .ok d env' => ∀ x y fs' H' f1 f2 own, Good C fs' env' σ H' (own ++ tf) → Step M tf fs env H fs' env' H' → Rep C H' d.1 x f1 → Rep C H' d.2 y f2 → In R1 own fs' f1 → In R2 own fs' f2 → Q x y H'
  | .ex x env' => ∀ cv dd fs' H', Good C fs' env' σ H' tf → Step M tf fs env H fs' env' H' → ExIs C x cv dd H' → W cv dd σ H'
  | .err => False
theorem two_go (ha : SB X W M1 R1 a ca) (hb : SB X W M2 R2 b cb) (hd : djB R1 M2 = true) : ∃ ta tb, PE X a ta ∧ PE X b tb ∧ ∀ C fs env σ H tf Q, C.At X → Good C fs env σ H tf →
    Post2 W C (M1 ++ M2) R1 R2 tf fs env σ H Q (cTwo ca cb env) → ta σ H fun x H1 => tb σ H1 fun y H2 => Q x y H2 := by
  obtain ⟨t, p, q⟩ := ha.go
  obtain ⟨t2, p2, q2⟩ := hb.go
  refine ⟨t, t2, p, p2, fun C fs env σ H tf Q hC G po => ?_⟩
  refine q C fs env σ H tf _ hC G ?_
  unfold cTwo at po
  cases e1 : ca env with
  | err => rw [e1] at po; exact po
  | ex x env' =>
    rw [e1] at po
    exact fun cv dd fs' H' G' s => po cv dd fs' H' G' (s.weak (fun i hi => List.mem_append_left _ hi) fun _ z => z)
  | ok d env1 =>
    rw [e1] at po
    intro v fs1 H1 fp1 own1 G1 s1 r1 i1
    refine q2 C fs1 env1 σ H1 (own1 ++ tf) _ hC G1 ?_
    have po' : Post2 W C (M1 ++ M2) R1 R2 tf fs env σ H Q ((cb env1).bind fun y env => .ok (d, y) env) := po
    cases e2 : cb env1 with
    | err => rw [e2] at po'; exact po'
    | ex x env' =>
      rw [e2] at po'
      exact fun cv dd fs' H' G' s => po' cv dd fs' H' G'.drop (s1.trans (s.weak (fun _ z => z) fun x hx => List.mem_append_right _ hx))
    | ok d2 env2 =>
      rw [e2] at po'
      intro v2 fs2 H2 fp2 own2 G2 s2 r2 i2
      have po2 : ∀ x y fs' H' f1 f2 own, Good C fs' env2 σ H' (own ++ tf) → Step (M1 ++ M2) tf fs env H fs' env2 H' → Rep C H' d x f1 → Rep C H' d2 y f2 → In R1 own fs' f1 → In R2 own fs' f2 → Q x y H' := po'
      exact po2 v v2 fs2 H2 fp1 fp2 (own2 ++ own1) (by rw [List.append_assoc]; exact G2) (s1.trans (s2.weak (fun _ z => z) fun x hx => List.mem_append_right _ hx)) (r1.keep (i1.keep s2 (djB_ok hd)) s2.m) r2
        (i1.step (own2 := own2) s2 (djB_ok hd)) (i2.mono (fun _ z => z) fun _ z => List.mem_append_left _ z)

/-- what a step on values comes to, by trees -/
def Comes (C : Ctx) (H : Hp) (d : D) (Q : VK) : Prop := ∀ v H' fp, Le H H' → Rep C H' d v fp → fp.Nodup → (∀ a ∈ fp, H a = none) → Q v H'
structure Pr2 (X : Cx) (r : L2.R2) (p : D → D → Option D) : Prop where
  run : ∀ C H x y dx dy fx fy d Q, C.At X → Fr C H → Rep C H dx x fx → Rep C H dy y fy → p dx dy = some d → Comes C H d Q → r x y H Q
structure Pr1 (X : Cx) (r : V → Hp → VK → Prop) (p : D → Option D) : Prop where
  run : ∀ C H x dx fx d Q, C.At X → Fr C H → Rep C H dx x fx → p dx = some d → Comes C H d Q → r x H Q
structure PrL (X : Cx) (r : List V → Hp → VK → Prop) (p : List D → Option D) : Prop where
  run : ∀ C H xs dxs fx d Q, C.At X → Fr C H → Reps C H dxs xs fx → p dxs = some d → Comes C H d Q → r xs H Q

theorem comes_post {C : Ctx} {fs fs1 : FPs} {env env1 : Env} {σ : St} {H H1 : Hp} {tf own : List Addr} {d : D} {Q : VK} (G1 : Good C fs1 env1 σ H1 (own ++ tf)) (s1 : Step M tf fs env H fs1 env1 H1)
    (po : PostO W C M tf fs env σ H Q (.ok d env1)) : Comes C H1 d Q := fun v H' fp le r nd nw =>
  po v fs1 H' fp (G1.drop.grow le nd nw r.trk) (by
    have := s1.trans (Step.grow (M := []) G1.drop le)
    simpa using this) r
theorem so_op {op : Operator} {r : L2.R2} {p : D → D → Option D} (ho : OpR X (binaryOp op) r) (hp : Pr2 X r p) (ha : SB X W M1 R1 a ca) (hb : SB X W M2 R2 b cb) (hd : djB R1 M2 = true := by decide) :
    SO X W (M1 ++ M2) (.BinOp a op b pos) (c2 p ca cb) := by
  obtain ⟨ta, tb, pa, pb, q⟩ := two_go ha hb hd
  refine ⟨tOp r ta tb, pe_op ho pa pb, fun C fs env σ H tf Q hC G po => q C fs env σ H tf _ hC G ?_⟩
  unfold c2 at po
  cases e1 : cTwo ca cb env with
  | err => rw [e1] at po; exact po
  | ex x env' => rw [e1] at po; exact po
  | ok d env' =>
    rw [e1] at po
    intro x y fs' H' f1 f2 own G' s r1 r2 i1 i2
    have po' : PostO W C (M1 ++ M2) tf fs env σ H Q (R.of (p d.1 d.2) env') := po
    cases e2 : p d.1 d.2 with
    | none => rw [e2] at po'; exact po'.elim
    | some z =>
      rw [e2] at po'
      exact hp.run C H' x y d.1 d.2 f1 f2 z Q hC G'.fr r1 r2 e2 (comes_post G' s po')
theorem so_cmp {op : CmpOp} {r : L2.R2} {p : D → D → Option D} (ho : OpR X (compareOp op) r) (hp : Pr2 X r p) (ha : SB X W M1 R1 a ca) (hb : SB X W M2 R2 b cb) (hm : behindInMarks op b = false := by first | exact nomark _ | rfl) (hd : djB R1 M2 = true := by decide) :
    SO X W (M1 ++ M2) (.Compare a [op] [b] pos) (c2 p ca cb) := by
  obtain ⟨ta, tb, pa, pb, q⟩ := two_go ha hb hd
  refine ⟨tOp r ta tb, pe_cmpR ho pa pb hm, fun C fs env σ H tf Q hC G po => q C fs env σ H tf _ hC G ?_⟩
  unfold c2 at po
  cases e1 : cTwo ca cb env with
  | err => rw [e1] at po; exact po
  | ex x env' => rw [e1] at po; exact po
  | ok d env' =>
    rw [e1] at po
    intro x y fs' H' f1 f2 own G' s r1 r2 i1 i2
    have po' : PostO W C (M1 ++ M2) tf fs env σ H Q (R.of (p d.1 d.2) env') := po
    cases e2 : p d.1 d.2 with
    | none => rw [e2] at po'; exact po'.elim
    | some z =>
      rw [e2] at po'
      exact hp.run C H' x y d.1 d.2 f1 f2 z Q hC G'.fr r1 r2 e2 (comes_post G' s po')
def c1 (p : D → Option D) (ca : CE) : CE := fun env => (ca env).bind fun x env => R.of (p x) env
theorem so_un {op : UnaryOp} {r : V → Hp → VK → Prop} {p : D → Option D} (ho : UnR X (unaryOp op) r) (hp : Pr1 X r p) (ha : SB X W M1 R1 a ca) : SO X W M1 (.UnaryOp op a pos) (c1 p ca) := by
  obtain ⟨ta, pa, q⟩ := ha.go
  refine ⟨tUn r ta, pe_un ho pa, fun C fs env σ H tf Q hC G po => q C fs env σ H tf _ hC G ?_⟩
  unfold c1 at po
  cases e1 : ca env with
  | err => rw [e1] at po; exact po
  | ex x env' => rw [e1] at po; exact po
  | ok d env' =>
    rw [e1] at po
    intro x fs' H' f1 own G' s r1 i1
    have po' : PostO W C M1 tf fs env σ H Q (R.of (p d) env') := po
    cases e2 : p d with
    | none => rw [e2] at po'; exact po'.elim
    | some z =>
      rw [e2] at po'
      exact hp.run C H' x d f1 z Q hC G'.fr r1 e2 (comes_post G' s po')

/-! ### tests -/
abbrev CT := Env → R Bool
def PostT (W : WX) (C : Ctx) (M : List Nat) (tf : List Addr) (fs : FPs) (env : Env) (σ : St) (H : Hp) (Q : Bool → Hp → Prop) : R Bool → Prop
  | .ok b env' => ∀ fs' H', Good C fs' env' σ H' tf → Step M tf fs env H fs' env' H' → Q b H'
  | .ex x env' => ∀ cv dd fs' H', Good C fs' env' σ H' tf → Step M tf fs env H fs' env' H' → ExIs C x cv dd H' → W cv dd σ H'
  | .err => False
structure ST (X : Cx) (W : WX) (M : List Nat) (e : Expr) (c : CT) : Prop where
  go : ∃ t, PT X e t ∧ ∀ C fs env σ H tf Q, C.At X → Good C fs env σ H tf → PostT W C M tf fs env σ H Q (c env) → t σ H Q
structure SW (X : Cx) (W : WX) (M : List Nat) (e : Expr) (c : CT) : Prop where
  go : ∃ t, PW X e t ∧ ∀ C fs env σ H tf Q, C.At X → Good C fs env σ H tf → PostT W C M tf fs env σ H Q (c env) → t σ H Q
theorem SW.st {c : CT} (h : SW X W M e c) : ST X W M e c := by
  obtain ⟨t, p, q⟩ := h.go
  exact ⟨t, p.pt, q⟩
def D.tt : D → Option Bool
  | .bl b => some b
  | _ => none
def cTt (ca : CE) : CT := fun env => (ca env).bind fun d env => R.of d.tt env
theorem tt_of {C : Ctx} {H : Hp} {d : D} {v : V} {fp : List Addr} {k : Bool} (r : Rep C H d v fp) (h : d.tt = some k) : v = .bl k := by
  cases d <;> simp [D.tt] at h
  subst h
  exact r.1
/-- a value that is a truth, as a test -/
theorem st_tt {t : TE} (ht : PT X e (tB t)) (hs : ∀ C fs env σ H tf Q, C.At X → Good C fs env σ H tf → PostB W C M Rs tf fs env σ H Q (ca env) → t σ H Q) : ST X W M e (cTt ca) := by
  refine ⟨tB t, ht, fun C fs env σ H tf Q hC G po => hs C fs env σ H tf _ hC G ?_⟩
  unfold cTt at po
  cases e1 : ca env with
  | err => rw [e1] at po; exact po
  | ex x env' => rw [e1] at po; exact po
  | ok d env' =>
    rw [e1] at po
    intro x fs' H' f1 own G' s r1 i1
    have po' : PostT W C M tf fs env σ H Q (R.of d.tt env') := po
    cases e2 : d.tt with
    | none => rw [e2] at po'; exact po'.elim
    | some k =>
      rw [e2] at po'
      exact ⟨k, tt_of r1 e2, po' fs' H' G'.drop s⟩
theorem st_val (h : SB X W M Rs e ca) (he : ∀ whole, isTrue e X.env whole = (do let v ← whole; standAt e.pos; holding [v] (truthy v)) := by intro _; rfl) : ST X W M e (cTt ca) := by
  obtain ⟨t, p, q⟩ := h.go
  exact st_tt (pt_val p he) q
theorem post_ob {C : Ctx} {fs : FPs} {env : Env} {σ : St} {H : Hp} {tf : List Addr} {Q : VK} {z : R D} (po : PostB W C M [] tf fs env σ H Q z) : PostO W C M tf fs env σ H Q z := by
  cases z with
  | err => exact po
  | ex x env' => exact po
  | ok d env' => exact fun v fs' H' fp G' s r => po v fs' H' fp fp G' s r fun x hx => .inl hx
/-- a comparison as a test -/
theorem st_cmp {op : CmpOp} {r : L2.R2} {p : D → D → Option D} (ho : OpR X (compareOp op) r) (hp : Pr2 X r p) (ha : SB X W M1 R1 a ca) (hb : SB X W M2 R2 b cb) (hm : behindInMarks op b = false := by first | exact nomark _ | rfl) (hd : djB R1 M2 = true := by decide) :
    ST X W (M1 ++ M2) (.Compare a [op] [b] pos) (cTt (c2 p ca cb)) := by
  obtain ⟨ta, tb, pa, pb, q⟩ := two_go ha hb hd
  refine st_tt (Rs := []) (t := tOp r ta tb) (pt_cmpR ho pa pb hm) fun C fs env σ H tf Q hC G po => q C fs env σ H tf _ hC G ?_
  have po := post_ob po
  unfold c2 at po
  cases e1 : cTwo ca cb env with
  | err => rw [e1] at po; exact po
  | ex x env' => rw [e1] at po; exact po
  | ok d env' =>
    rw [e1] at po
    intro x y fs' H' f1 f2 own G' s r1 r2 i1 i2
    have po' : PostO W C (M1 ++ M2) tf fs env σ H Q (R.of (p d.1 d.2) env') := po
    cases e2 : p d.1 d.2 with
    | none => rw [e2] at po'; exact po'.elim
    | some z =>
      rw [e2] at po'
      exact hp.run C H' x y d.1 d.2 f1 f2 z Q hC G'.fr r1 r2 e2 (comes_post G' s po')
def tcAnd (ca cb : CT) : CT := fun env => (ca env).bind fun b env => if b = true then cb env else .ok false env
def tcOr (ca cb : CT) : CT := fun env => (ca env).bind fun b env => if b = true then .ok true env else cb env
def tcNot (ca : CT) : CT := fun env => (ca env).bind fun b env => .ok (!b) env
variable {ta tb : CT}
theorem sw_and1 (h : ST X W M a ta) : SW X W M (.BoolOp .And [a] pos) ta := by
  obtain ⟨t, p, q⟩ := h.go
  exact ⟨t, pw_and1 p, q⟩
theorem sw_or1 (h : ST X W M a ta) : SW X W M (.BoolOp .Or [a] pos) ta := by
  obtain ⟨t, p, q⟩ := h.go
  exact ⟨t, pw_or1 p, q⟩
theorem seqT {C : Ctx} {fs : FPs} {env : Env} {σ : St} {H : Hp} {tf : List Addr} {Q : Bool → Hp → Prop} {f : Bool → CT} {t u : TT} (hC : C.At X) (G : Good C fs env σ H tf)
    (ht : ∀ C fs env σ H tf Q, C.At X → Good C fs env σ H tf → PostT W C M1 tf fs env σ H Q (ta env) → t σ H Q)
    (po : PostT W C (M1 ++ M2) tf fs env σ H Q ((ta env).bind fun b env => f b env)) {K : Bool → Hp → Prop}
    (hK : ∀ b fs1 env1 H1, Good C fs1 env1 σ H1 tf → Step M1 tf fs env H fs1 env1 H1 → PostT W C M2 tf fs1 env1 σ H1 Q (f b env1) → K b H1) : t σ H K := by
  refine ht C fs env σ H tf _ hC G ?_
  cases e1 : ta env with
  | err => rw [e1] at po; exact po
  | ex x env' =>
    rw [e1] at po
    exact fun cv dd fs' H' G' s => po cv dd fs' H' G' (s.weak (fun i hi => List.mem_append_left _ hi) fun _ z => z)
  | ok d env1 =>
    rw [e1] at po
    intro fs1 H1 G1 s1
    refine hK d fs1 env1 H1 G1 s1 ?_
    have po' : PostT W C (M1 ++ M2) tf fs env σ H Q (f d env1) := po
    cases e2 : f d env1 with
    | err => rw [e2] at po'; exact po'
    | ex x env' =>
      rw [e2] at po'
      exact fun cv dd fs' H' G' s => po' cv dd fs' H' G' (s1.trans s)
    | ok d2 env2 =>
      rw [e2] at po'
      exact fun fs2 H2 G2 s2 => po' fs2 H2 G2 (s1.trans s2)
theorem sw_and (ha : ST X W M1 a ta) (hb : SW X W M2 (.BoolOp .And (b :: es) pos) tb) : SW X W (M1 ++ M2) (.BoolOp .And (a :: b :: es) pos) (tcAnd ta tb) := by
  obtain ⟨t, p, q⟩ := ha.go
  obtain ⟨t2, p2, q2⟩ := hb.go
  refine ⟨tAnd t t2, pw_and p p2, fun C fs env σ H tf Q hC G po => ?_⟩
  refine seqT (M1 := M1) (M2 := M2) (ta := ta) (f := fun b env => if b = true then tb env else .ok false env) (u := t2) hC G q po fun b fs1 env1 H1 G1 s1 po1 => ?_
  cases b with
  | true => exact q2 C fs1 env1 σ H1 tf Q hC G1 po1
  | false => exact po1 fs1 H1 G1 .refl
theorem sw_or (ha : ST X W M1 a ta) (hb : SW X W M2 (.BoolOp .Or (b :: es) pos) tb) : SW X W (M1 ++ M2) (.BoolOp .Or (a :: b :: es) pos) (tcOr ta tb) := by
  obtain ⟨t, p, q⟩ := ha.go
  obtain ⟨t2, p2, q2⟩ := hb.go
  refine ⟨tOr t t2, pw_or p p2, fun C fs env σ H tf Q hC G po => ?_⟩
  refine seqT (M1 := M1) (M2 := M2) (ta := ta) (f := fun b env => if b = true then .ok true env else tb env) (u := t2) hC G q po fun b fs1 env1 H1 G1 s1 po1 => ?_
  cases b with
  | false => exact q2 C fs1 env1 σ H1 tf Q hC G1 po1
  | true => exact po1 fs1 H1 G1 .refl
theorem st_not (ha : ST X W M a ta) : ST X W M (.UnaryOp .Not a pos) (tcNot ta) := by
  obtain ⟨t, p, q⟩ := ha.go
  refine ⟨tNot t, pt_not p, fun C fs env σ H tf Q hC G po => q C fs env σ H tf _ hC G ?_⟩
  unfold tcNot at po
  cases e1 : ta env with
  | err => rw [e1] at po; exact po
  | ex x env' => rw [e1] at po; exact po
  | ok d env' => rw [e1] at po; exact po
end
end VS

set_option maxRecDepth 100000
namespace VS
open PySem L2 SeqAt

/-- a step on values, told by trees -/
def rD2 (X : Cx) (p : D → D → Option D) : L2.R2 := fun x y H Q => ∃ C dx dy fx fy d, Ctx.At C X ∧ Fr C H ∧ Rep C H dx x fx ∧ Rep C H dy y fy ∧ p dx dy = some d ∧ Comes C H d Q
def rD1 (X : Cx) (p : D → Option D) : V → Hp → VK → Prop := fun x H Q => ∃ C dx fx d, Ctx.At C X ∧ Fr C H ∧ Rep C H dx x fx ∧ p dx = some d ∧ Comes C H d Q
def rDL (X : Cx) (p : List D → Option D) : List V → Hp → VK → Prop := fun xs H Q => ∃ C dxs fx d, Ctx.At C X ∧ Fr C H ∧ Reps C H dxs xs fx ∧ p dxs = some d ∧ Comes C H d Q
theorem pr2_rd {X : Cx} {p} : Pr2 X (rD2 X p) p := ⟨fun C H x y dx dy fx fy d Q hC hF rx ry e k => ⟨C, dx, dy, fx, fy, d, hC, hF, rx, ry, e, k⟩⟩
theorem pr1_rd {X : Cx} {p} : Pr1 X (rD1 X p) p := ⟨fun C H x dx fx d Q hC hF rx e k => ⟨C, dx, fx, d, hC, hF, rx, e, k⟩⟩
theorem prL_rd {X : Cx} {p} : PrL X (rDL X p) p := ⟨fun C H xs dxs fx d Q hC hF rx e k => ⟨C, dxs, fx, d, hC, hF, rx, e, k⟩⟩
abbrev OD2 (X : Cx) (f : Value → Value → Sem Value) (p : D → D → Option D) : Prop := OpR X f (rD2 X p)
abbrev OD1 (X : Cx) (f : Value → Sem Value) (p : D → Option D) : Prop := UnR X f (rD1 X p)
abbrev ODL (X : Cx) (f : Value) (p : List D → Option D) : Prop := CallR X f (rDL X p)
theorem OD2.of {X : Cx} {f r p} (h : OpR X f r) (hp : ∀ x y H Q, rD2 X p x y H Q → r x y H Q) : OD2 X f p := fun pins s σ H x y v u Q I rx ry q => h pins s σ H x y v u Q I rx ry (hp _ _ _ _ q)
theorem OD1.of {X : Cx} {f r p} (h : UnR X f r) (hp : ∀ x H Q, rD1 X p x H Q → r x H Q) : OD1 X f p := fun pins s σ H x v Q I rx q => h pins s σ H x v Q I rx (hp _ _ _ q)
theorem ODL.of {X : Cx} {f r p} (h : CallR X f r) (hp : ∀ xs H Q, rDL X p xs H Q → r xs H Q) : ODL X f p := fun pins s σ H xs us Q I rx q => h pins s σ H xs us Q I rx (hp _ _ _ q)
def orP2 (p q : D → D → Option D) : D → D → Option D := fun x y => (p x y).or (q x y)
theorem OD2.or {X : Cx} {f p q} (h : OD2 X f p) (h' : OD2 X f q) : OD2 X f (orP2 p q) := by
  intro pins s σ H x y v u Q I rx ry ⟨C, dx, dy, fx, fy, d, hC, hF, r1, r2, e, k⟩
  unfold orP2 at e
  cases e1 : p dx dy with
  | some z =>
    rw [e1] at e
    have e2 : z = d := Option.some.inj e
    subst e2
    exact h pins s σ H x y v u Q I rx ry ⟨C, dx, dy, fx, fy, z, hC, hF, r1, r2, e1, k⟩
  | none => rw [e1] at e; exact h' pins s σ H x y v u Q I rx ry ⟨C, dx, dy, fx, fy, d, hC, hF, r1, r2, e, k⟩
theorem Comes.here {C : Ctx} {H : Hp} {d : D} {Q : VK} (k : Comes C H d Q) {v : V} (r : Rep C H d v []) : Q v H := k v H [] (Le.refl H) r .nil (fun _ z => nomatch z)

section
variable {X : Cx} {W : WX} {M M1 M2 M3 Rs R1 R2 R3 : List Nat} {e a b c : Expr} {es : List Expr} {ca cb cc : CE} {cs : CA} {pos : Pos}
theorem so_bin {op : Operator} {p : D → D → Option D} (ho : OD2 X (binaryOp op) p) (ha : SB X W M1 R1 a ca) (hb : SB X W M2 R2 b cb) (hd : djB R1 M2 = true := by decide) : SO X W (M1 ++ M2) (.BinOp a op b pos) (c2 p ca cb) := so_op ho pr2_rd ha hb hd
theorem so_cmpD {op : CmpOp} {p : D → D → Option D} (ho : OD2 X (compareOp op) p) (ha : SB X W M1 R1 a ca) (hb : SB X W M2 R2 b cb) (hm : behindInMarks op b = false := by first | exact nomark _ | rfl) (hd : djB R1 M2 = true := by decide) :
    SO X W (M1 ++ M2) (.Compare a [op] [b] pos) (c2 p ca cb) := so_cmp ho pr2_rd ha hb hm hd
theorem st_cmpD {op : CmpOp} {p : D → D → Option D} (ho : OD2 X (compareOp op) p) (ha : SB X W M1 R1 a ca) (hb : SB X W M2 R2 b cb) (hm : behindInMarks op b = false := by first | exact nomark _ | rfl) (hd : djB R1 M2 = true := by decide) :
    ST X W (M1 ++ M2) (.Compare a [op] [b] pos) (cTt (c2 p ca cb)) := st_cmp ho pr2_rd ha hb hm hd

/-! ### ints -/
def pI (c : Int → Int → Bool) (g : Int → Int → Int) : D → D → Option D
  | .int i, .int j => if c i j then some (.int (g i j)) else none
  | _, _ => none
def pIB (g : Int → Int → Bool) : D → D → Option D
  | .int i, .int j => some (.bl (g i j))
  | _, _ => none
theorem pI_inv {c g dx dy d} (h : pI c g dx dy = some d) : ∃ i j, dx = .int i ∧ dy = .int j ∧ c i j = true ∧ d = .int (g i j) := by
  unfold pI at h
  split at h
  · rename_i i j
    split at h
    · rename_i hc; cases h; exact ⟨i, j, rfl, rfl, hc, rfl⟩
    · cases h
  · cases h
theorem pIB_inv {g dx dy d} (h : pIB g dx dy = some d) : ∃ i j, dx = .int i ∧ dy = .int j ∧ d = .bl (g i j) := by
  unfold pIB at h
  split at h
  · rename_i i j; cases h; exact ⟨i, j, rfl, rfl, rfl⟩
  · cases h
theorem od_int {f : Value → Value → Sem Value} {Cc : Int → Int → Prop} {c : Int → Int → Bool} {g : Int → Int → Int} (h : OpR X f (rI Cc fun i j => .int (g i j))) (hc : ∀ i j, c i j = true → Cc i j) : OD2 X f (pI c g) := by
  refine OD2.of h fun x y H Q ⟨C, dx, dy, fx, fy, d, hC, hF, r1, r2, e, k⟩ => ?_
  obtain ⟨i, j, rfl, rfl, h1, rfl⟩ := pI_inv e
  obtain ⟨rfl, _⟩ := r1
  obtain ⟨rfl, _⟩ := r2
  exact ⟨i, j, rfl, rfl, hc i j h1, k.here ⟨rfl, rfl⟩⟩
theorem od_int0 {f : Value → Value → Sem Value} {g : Int → Int → Int} (h : OpR X f (rI0 fun i j => .int (g i j))) : OD2 X f (pI (fun _ _ => true) g) := by
  refine OD2.of h fun x y H Q ⟨C, dx, dy, fx, fy, d, hC, hF, r1, r2, e, k⟩ => ?_
  obtain ⟨i, j, rfl, rfl, h1, rfl⟩ := pI_inv e
  obtain ⟨rfl, _⟩ := r1
  obtain ⟨rfl, _⟩ := r2
  exact ⟨i, j, rfl, rfl, k.here ⟨rfl, rfl⟩⟩
theorem od_cmp {f : Value → Value → Sem Value} {g : Int → Int → Bool} (h : OpR X f (rI0 fun i j => .bl (g i j))) : OD2 X f (pIB g) := by
  refine OD2.of h fun x y H Q ⟨C, dx, dy, fx, fy, d, hC, hF, r1, r2, e, k⟩ => ?_
  obtain ⟨i, j, rfl, rfl, rfl⟩ := pIB_inv e
  obtain ⟨rfl, _⟩ := r1
  obtain ⟨rfl, _⟩ := r2
  exact ⟨i, j, rfl, rfl, k.here ⟨rfl, rfl⟩⟩
abbrev pAddI := pI (fun _ _ => true) (fun i j => i + j)
abbrev pSub := pI (fun _ _ => true) (fun i j => i - j)
abbrev pMulI := pI (fun i j => decide (-(2 ^ 64) < i ∧ i < 2 ^ 64) || decide (-(2 ^ 64) < j ∧ j < 2 ^ 64)) (fun i j => i * j)
abbrev pDiv := pI (fun _ j => decide (0 < j ∧ j < 2 ^ 64)) (fun i j => i / j)
abbrev pMod := pI (fun _ j => decide (0 < j)) (fun i j => i % j)
abbrev pPow := pI (fun i j => decide (0 ≤ j ∧ j ≤ 1000000 ∧ i.natAbs < 2 ^ 64)) (fun i j => i ^ j.toNat)
theorem od_addI : OD2 X (binaryOp .Add) pAddI := od_int0 op_add
theorem od_sub : OD2 X (binaryOp .Sub) pSub := od_int0 op_sub
theorem od_mulI : OD2 X (binaryOp .Mult) pMulI := od_int op_mul fun i j h => by
  rcases Bool.or_eq_true_iff.mp h with z | z
  · exact .inl (of_decide_eq_true z)
  · exact .inr (of_decide_eq_true z)
theorem od_div : OD2 X (binaryOp .FloorDiv) pDiv := od_int op_fdivW fun i j h => by
  obtain ⟨h1, h2⟩ := of_decide_eq_true h
  refine wide_div (b := 64) h1 ?_ (by decide) (by decide)
  omega
theorem od_mod : OD2 X (binaryOp .Mod) pMod := od_int op_mod fun i j h => of_decide_eq_true h
theorem od_pow : OD2 X (binaryOp .Pow) pPow := od_int op_pow fun i j h => by
  have z := of_decide_eq_true h
  exact z
abbrev pLtI := pIB fun i j => decide (i < j)
abbrev pLeI := pIB fun i j => decide (i ≤ j)
abbrev pGtI := pIB fun i j => decide (j < i)
abbrev pGeI := pIB fun i j => decide (j ≤ i)
theorem od_ltI : OD2 X (compareOp .Lt) pLtI := od_cmp op_lt
theorem od_leI : OD2 X (compareOp .LtE) pLeI := od_cmp op_le
theorem od_gtI : OD2 X (compareOp .Gt) pGtI := od_cmp op_gt
theorem od_geI : OD2 X (compareOp .GtE) pGeI := od_cmp op_ge
def pNeg : D → Option D
  | .int i => some (.int (-i))
  | _ => none
theorem od_neg : OD1 X (unaryOp .USub) pNeg := by
  refine OD1.of un_neg fun x H Q ⟨C, dx, fx, d, hC, hF, r1, e, k⟩ => ?_
  cases dx <;> simp [pNeg] at e
  subst e
  obtain ⟨rfl, _⟩ := r1
  exact ⟨_, rfl, k.here ⟨rfl, rfl⟩⟩
theorem so_neg (ha : SB X W M R1 a ca) : SO X W M (.UnaryOp .USub a pos) (c1 pNeg ca) := so_un od_neg pr1_rd ha

/-! ### == -/
mutual
def pyEq : D → D → Bool
  | .non, .non => true
  | .bl a, .bl b => a == b
  | .bl a, .int j => (if a then 1 else 0) == j
  | .int i, .bl b => i == (if b then 1 else 0)
  | .int i, .int j => i == j
  | .str x, .str y => x == y
  | .lst _ xs, .lst _ ys => pyEqs xs ys
  | .tup xs, .tup ys => pyEqs xs ys
  | _, _ => false
def pyEqs : List D → List D → Bool
  | [], [] => true
  | x :: xs, y :: ys => pyEq x y && pyEqs xs ys
  | _, _ => false
end
mutual
def eqOk : Nat → D → Bool
  | _, .non => true
  | _, .bl _ => true
  | _, .int _ => true
  | _, .str _ => true
  | n + 1, .lst _ ds => eqOks n ds
  | n + 1, .tup ds => eqOks n ds
  | _, _ => false
def eqOks : Nat → List D → Bool
  | _, [] => true
  | n, d :: ds => eqOk n d && eqOks n ds
end
theorem reps_length {C : Ctx} {H : Hp} : ∀ {ds : List D} {vs : List V} {fp : List Addr}, Reps C H ds vs fp → ds.length = vs.length
  | [], vs, fp, ⟨h, _⟩ => by rw [h]; rfl
  | d :: ds, vs, fp, ⟨v, vs', f1, f2, e, r, rs, _⟩ => by rw [e]; simp [reps_length rs]
theorem reps_get {C : Ctx} {H : Hp} : ∀ {ds : List D} {vs : List V} {fp : List Addr} {i : Nat} {d : D}, Reps C H ds vs fp → ds[i]? = some d → ∃ v g1 f g2, vs[i]? = some v ∧ Rep C H d v f ∧ fp = g1 ++ f ++ g2
  | [], vs, fp, i, d, _, h => by simp at h
  | d0 :: ds, vs, fp, 0, d, ⟨v, vs', f1, f2, e, r, rs, e2⟩, h => by
    simp at h; subst h; subst e; exact ⟨v, [], f1, f2, by simp, r, by simpa using e2⟩
  | d0 :: ds, vs, fp, i + 1, d, ⟨v, vs', f1, f2, e, r, rs, e2⟩, h => by
    subst e
    obtain ⟨w, g1, f, g2, h1, h2, h3⟩ := reps_get (i := i) rs (by simpa using h)
    exact ⟨w, f1 ++ g1, f, g2, by simpa using h1, h2, by rw [e2, h3]; simp [List.append_assoc]⟩
theorem pyEqs_len : ∀ {xs ys : List D}, xs.length ≠ ys.length → pyEqs xs ys = false
  | [], [], h => absurd rfl h
  | [], _ :: _, _ => by simp [pyEqs]
  | _ :: _, [], _ => by simp [pyEqs]
  | x :: xs, y :: ys, h => by rw [pyEqs, pyEqs_len (xs := xs) (ys := ys) (by simpa using h), Bool.and_false]
def pairE (xs ys : List D) (j : Nat) : Bool := match xs[j]?, ys[j]? with
  | some x, some y => pyEq x y
  | _, _ => false
theorem pyEqs_all : ∀ {xs ys : List D}, xs.length = ys.length → ((List.range xs.length).all fun j => pairE xs ys j) = pyEqs xs ys
  | [], [], _ => by simp [pyEqs]
  | x :: xs, y :: ys, h => by
    rw [List.length_cons, List.range_succ_eq_map, List.all_cons, List.all_map, pyEqs]
    have e0 : pairE (x :: xs) (y :: ys) 0 = pyEq x y := rfl
    have e1 : ((fun j => pairE (x :: xs) (y :: ys) j) ∘ Nat.succ) = fun j => pairE xs ys j := by funext j; simp [pairE]
    rw [e0, e1, pyEqs_all (xs := xs) (ys := ys) (by simpa using h)]

/-! what == asks of the machine -/
variable {pins : List (Addr × Obj)} {σ : St} {H : Hp} {s : Shared} {C : Ctx}
theorem rep_list {g ds v fp} (hC : C.At X) (hF : Fr C H) (r : Rep C H (.lst g ds) v fp) : ∃ a vs f, v = .ref a ∧ SqL X.K H a vs ∧ Reps C H ds vs f := by
  obtain ⟨a, vs, f1, f2, e, n, r, _, _⟩ := r
  exact ⟨a, vs, f2, e, by have := (Nd.rd n hF).sql; rwa [hC.1] at this, r⟩
theorem rep_tup {ds v fp} (hC : C.At X) (r : Rep C H (.tup ds) v fp) : ∃ a vs, v = .ref a ∧ SqT X.K H a vs ∧ Reps C H ds vs fp := by
  obtain ⟨a, vs, e, n, r⟩ := r
  exact ⟨a, vs, e, by rwa [hC.1] at n, r⟩
theorem ltu (I : Inv X pins σ H s) {a : Addr} {xs ys : List V} (h : SqL X.K H a xs) (h' : SqT X.K H a ys) : False := by
  obtain ⟨its, _, p, _⟩ := I.list h
  obtain ⟨its', _, p', _⟩ := I.tuple h'
  obtain ⟨o, n, e, c, _, _⟩ := p
  obtain ⟨o', e', c', _⟩ := p'
  rw [e] at e'; cases e'
  rw [c] at c'
  exact absurd c' (by decide)
mutual
theorem eq_same (I : Inv X pins σ H s) (hC : C.At X) (hF : Fr C H) : ∀ (d e : D) (n : Nat) (v : V) (f1 f2 : List Addr), eqOk n d = true → eqOk n e = true → Rep C H d v f1 → Rep C H e v f2 → pyEq d e = true
  | .non, e, n, v, f1, f2, o1, o2, r1, r2 => by
    obtain ⟨rfl, _⟩ := r1
    cases e <;> simp [Rep] at r2 <;> first | rfl | exact absurd r2.1 (by simp)
  | .bl b, e, n, v, f1, f2, o1, o2, r1, r2 => by
    obtain ⟨rfl, _⟩ := r1
    cases e <;> simp [Rep] at r2
    simp [pyEq, r2.1]
  | .int i, e, n, v, f1, f2, o1, o2, r1, r2 => by
    obtain ⟨rfl, _⟩ := r1
    cases e <;> simp [Rep] at r2
    simp [pyEq, r2.1]
  | .str i, e, n, v, f1, f2, o1, o2, r1, r2 => by
    obtain ⟨rfl, _⟩ := r1
    cases e <;> simp [Rep] at r2
    simp [pyEq, r2.1]
  | .ty i, e, n, v, f1, f2, o1, o2, r1, r2 => by simp [eqOk] at o1
  | .dct _ _ _, e, n, v, f1, f2, o1, o2, r1, r2 => by simp [eqOk] at o1
  | .obj _ _ _ _, e, n, v, f1, f2, o1, o2, r1, r2 => by simp [eqOk] at o1
  | .lst g ds, e, n, v, f1, f2, o1, o2, r1, r2 => by
    obtain ⟨a, vs, f, rfl, q, rs⟩ := rep_list hC hF r1
    cases n with
    | zero => simp [eqOk] at o1
    | succ n =>
      cases e with
      | lst g2 es =>
        obtain ⟨b, ws, f', e1, q2, rs2⟩ := rep_list hC hF r2
        cases e1
        rw [I.list_inj q2 q] at rs2
        exact eqs_same I hC hF ds es n vs f f' (by simpa [eqOk] using o1) (by simpa [eqOk] using o2) rs rs2
      | tup es =>
        obtain ⟨b, ws, e1, q2, rs2⟩ := rep_tup hC r2
        cases e1
        exact (ltu I q q2).elim
      | ty _ => simp [eqOk] at o2
      | dct _ _ _ => simp [eqOk] at o2
      | obj _ _ _ _ => simp [eqOk] at o2
      | _ => simp [Rep] at r2
  | .tup ds, e, n, v, f1, f2, o1, o2, r1, r2 => by
    obtain ⟨a, vs, rfl, q, rs⟩ := rep_tup hC r1
    cases n with
    | zero => simp [eqOk] at o1
    | succ n =>
      cases e with
      | tup es =>
        obtain ⟨b, ws, e1, q2, rs2⟩ := rep_tup hC r2
        cases e1
        rw [I.tuple_inj q2 q] at rs2
        exact eqs_same I hC hF ds es n vs f1 f2 (by simpa [eqOk] using o1) (by simpa [eqOk] using o2) rs rs2
      | lst g es =>
        obtain ⟨b, ws, f, e1, q2, rs2⟩ := rep_list hC hF r2
        cases e1
        exact (ltu I q2 q).elim
      | ty _ => simp [eqOk] at o2
      | dct _ _ _ => simp [eqOk] at o2
      | obj _ _ _ _ => simp [eqOk] at o2
      | _ => simp [Rep] at r2
theorem eqs_same (I : Inv X pins σ H s) (hC : C.At X) (hF : Fr C H) : ∀ (ds es : List D) (n : Nat) (vs : List V) (f1 f2 : List Addr), eqOks n ds = true → eqOks n es = true → Reps C H ds vs f1 → Reps C H es vs f2 → pyEqs ds es = true
  | [], es, n, vs, f1, f2, o1, o2, r1, r2 => by
    have := reps_length r1
    have h2 := reps_length r2
    cases es with
    | nil => rfl
    | cons e es => simp at this h2; omega
  | d :: ds, [], n, vs, f1, f2, o1, o2, r1, r2 => by
    have := reps_length r1
    have h2 := reps_length r2
    simp at this h2; omega
  | d :: ds, e :: es, n, vs, f1, f2, o1, o2, ⟨v, vs', g1, g2, e1, r1, rs1, _⟩, ⟨w, ws', k1, k2, e2, r2, rs2, _⟩ => by
    rw [e1] at e2; cases e2
    simp only [eqOks, Bool.and_eq_true] at o1 o2
    rw [pyEqs, eq_same I hC hF d e n v g1 k1 o1.1 o2.1 r1 r2, eqs_same I hC hF ds es n vs' g2 k2 o1.2 o2.2 rs1 rs2]; rfl
end

theorem reps_vals {ds : List D} {vs : List V} {us : List Value} {fp} (r : Reps C H ds vs fp) (rv : Vals vs us) : ds.length = us.length := (reps_length r).trans rv.length
section
open SeqAt
theorem rc_flip (I : Inv X pins σ H s) {a b : Addr} {xs ys : List V} (h : SqL X.K H a xs) (h' : SqT X.K H b ys) : a ≠ b := by
  intro e; subst e; exact ltu I h h'
mutual
theorem rc_rep (I : Inv X pins σ H s) (hC : C.At X) (hF : Fr C H) : ∀ (d e : D) (n : Nat) (A : Around) (v w : V) (f1 f2 : List Addr) (u u' : Value), eqOk n d = true → eqOk n e = true → Rep C H d v f1 → Rep C H e w f2 → RelV v u → RelV w u' → A.units + n + 1 < cLine →
    RcAt A s u u' (pyEq d e) ∧ EqAt A s u u' (pyEq d e)
  | .ty i, e, n, A, v, w, f1, f2, u, u', o1, o2, r1, r2, q1, q2, hu => by simp [eqOk] at o1
  | .dct _ _ _, e, n, A, v, w, f1, f2, u, u', o1, o2, r1, r2, q1, q2, hu => by simp [eqOk] at o1
  | .obj _ _ _ _, e, n, A, v, w, f1, f2, u, u', o1, o2, r1, r2, q1, q2, hu => by simp [eqOk] at o1
  | .non, e, n, A, v, w, f1, f2, u, u', o1, o2, r1, r2, q1, q2, hu => by
    obtain ⟨rfl, _⟩ := r1
    cases (show u = Value.none from q1)
    cases e with
    | non => obtain ⟨rfl, _⟩ := r2; cases (show u' = Value.none from q2); exact ⟨RcAt.none_none, EqAt.same _⟩
    | bl b => obtain ⟨rfl, _⟩ := r2; cases (show u' = Value.bool b from q2); exact ⟨RcAt.none_bool b, EqAt.none_bool b⟩
    | int j => obtain ⟨rfl, _⟩ := r2; obtain ⟨t, rfl⟩ := q2; exact ⟨RcAt.none_int j t, EqAt.none_int j t⟩
    | str j => obtain ⟨rfl, _⟩ := r2; obtain ⟨t, rfl⟩ := q2; exact ⟨RcAt.none_str j t, EqAt.none_str j t⟩
    | lst g es =>
      obtain ⟨a, vs, f, rfl, q, rs⟩ := rep_list hC hF r2
      cases (show u' = Value.ref a from q2)
      obtain ⟨its, _, p, _⟩ := I.list q
      exact ⟨RcAt.none_list p.isList (by omega), EqAt.none_list p.isList (by omega)⟩
    | tup es =>
      obtain ⟨a, vs, rfl, q, rs⟩ := rep_tup hC r2
      cases (show u' = Value.ref a from q2)
      obtain ⟨its, _, p, _⟩ := I.tuple q
      exact ⟨RcAt.none_tuple p (by omega), EqAt.none_tuple p (by omega)⟩
    | ty _ => simp [eqOk] at o2
    | dct _ _ _ => simp [eqOk] at o2
    | obj _ _ _ _ => simp [eqOk] at o2
  | .bl x, e, n, A, v, w, f1, f2, u, u', o1, o2, r1, r2, q1, q2, hu => by
    obtain ⟨rfl, _⟩ := r1
    cases (show u = Value.bool x from q1)
    cases e with
    | non => obtain ⟨rfl, _⟩ := r2; cases (show u' = Value.none from q2); exact ⟨RcAt.bool_none x, EqAt.bool_none x⟩
    | bl b => obtain ⟨rfl, _⟩ := r2; cases (show u' = Value.bool b from q2); exact ⟨RcAt.bool_bool x b, EqAt.bool_bool x b⟩
    | int j => obtain ⟨rfl, _⟩ := r2; obtain ⟨t, rfl⟩ := q2; exact ⟨RcAt.bool_int x j t, EqAt.bool_int x j t⟩
    | str j => obtain ⟨rfl, _⟩ := r2; obtain ⟨t, rfl⟩ := q2; exact ⟨RcAt.bool_str x j t, EqAt.bool_str x j t⟩
    | lst g es =>
      obtain ⟨a, vs, f, rfl, q, rs⟩ := rep_list hC hF r2
      cases (show u' = Value.ref a from q2)
      obtain ⟨its, _, p, _⟩ := I.list q
      exact ⟨RcAt.bool_list x p.isList (by omega), EqAt.bool_list x p.isList (by omega)⟩
    | tup es =>
      obtain ⟨a, vs, rfl, q, rs⟩ := rep_tup hC r2
      cases (show u' = Value.ref a from q2)
      obtain ⟨its, _, p, _⟩ := I.tuple q
      exact ⟨RcAt.bool_tuple x p (by omega), EqAt.bool_tuple x p (by omega)⟩
    | ty _ => simp [eqOk] at o2
    | dct _ _ _ => simp [eqOk] at o2
    | obj _ _ _ _ => simp [eqOk] at o2
  | .int x, e, n, A, v, w, f1, f2, u, u', o1, o2, r1, r2, q1, q2, hu => by
    obtain ⟨rfl, _⟩ := r1
    obtain ⟨t0, rfl⟩ := q1
    cases e with
    | non => obtain ⟨rfl, _⟩ := r2; cases (show u' = Value.none from q2); exact ⟨RcAt.int_none x t0, EqAt.int_none x t0⟩
    | bl b => obtain ⟨rfl, _⟩ := r2; cases (show u' = Value.bool b from q2); exact ⟨RcAt.int_bool x t0 b, EqAt.int_bool x t0 b⟩
    | int j => obtain ⟨rfl, _⟩ := r2; obtain ⟨t, rfl⟩ := q2; exact ⟨RcAt.int_int x t0 j t, EqAt.int_int x t0 j t⟩
    | str j => obtain ⟨rfl, _⟩ := r2; obtain ⟨t, rfl⟩ := q2; exact ⟨RcAt.int_str x t0 j t, EqAt.int_str x t0 j t⟩
    | lst g es =>
      obtain ⟨a, vs, f, rfl, q, rs⟩ := rep_list hC hF r2
      cases (show u' = Value.ref a from q2)
      obtain ⟨its, _, p, _⟩ := I.list q
      exact ⟨RcAt.int_list x t0 p.isList (by omega), EqAt.int_list x t0 p.isList (by omega)⟩
    | tup es =>
      obtain ⟨a, vs, rfl, q, rs⟩ := rep_tup hC r2
      cases (show u' = Value.ref a from q2)
      obtain ⟨its, _, p, _⟩ := I.tuple q
      exact ⟨RcAt.int_tuple x t0 p (by omega), EqAt.int_tuple x t0 p (by omega)⟩
    | ty _ => simp [eqOk] at o2
    | dct _ _ _ => simp [eqOk] at o2
    | obj _ _ _ _ => simp [eqOk] at o2
  | .str x, e, n, A, v, w, f1, f2, u, u', o1, o2, r1, r2, q1, q2, hu => by
    obtain ⟨rfl, _⟩ := r1
    obtain ⟨t0, rfl⟩ := q1
    cases e with
    | non => obtain ⟨rfl, _⟩ := r2; cases (show u' = Value.none from q2); exact ⟨RcAt.str_none x t0, EqAt.str_none x t0⟩
    | bl b => obtain ⟨rfl, _⟩ := r2; cases (show u' = Value.bool b from q2); exact ⟨RcAt.str_bool x t0 b, EqAt.str_bool x t0 b⟩
    | int j => obtain ⟨rfl, _⟩ := r2; obtain ⟨t, rfl⟩ := q2; exact ⟨RcAt.str_int x t0 j t, EqAt.str_int x t0 j t⟩
    | str j => obtain ⟨rfl, _⟩ := r2; obtain ⟨t, rfl⟩ := q2; exact ⟨RcAt.str_str x t0 j t, EqAt.str_str x t0 j t⟩
    | lst g es =>
      obtain ⟨a, vs, f, rfl, q, rs⟩ := rep_list hC hF r2
      cases (show u' = Value.ref a from q2)
      obtain ⟨its, _, p, _⟩ := I.list q
      exact ⟨RcAt.str_list x t0 p.isList (by omega), EqAt.str_list x t0 p.isList (by omega)⟩
    | tup es =>
      obtain ⟨a, vs, rfl, q, rs⟩ := rep_tup hC r2
      cases (show u' = Value.ref a from q2)
      obtain ⟨its, _, p, _⟩ := I.tuple q
      exact ⟨RcAt.str_tuple x t0 p (by omega), EqAt.str_tuple x t0 p (by omega)⟩
    | ty _ => simp [eqOk] at o2
    | dct _ _ _ => simp [eqOk] at o2
    | obj _ _ _ _ => simp [eqOk] at o2
  | .lst g ds, e, n, A, v, w, f1, f2, u, u', o1, o2, r1, r2, q1, q2, hu => by
    have r1' := r1
    have r2' := r2
    have q2' := q2
    obtain ⟨a, vs, f, rfl, q, rs⟩ := rep_list hC hF r1
    cases (show u = Value.ref a from q1)
    obtain ⟨its, rv, p, _⟩ := I.list q
    have hi := p.isList
    cases e with
    | non => obtain ⟨rfl, _⟩ := r2; cases (show u' = Value.none from q2); exact ⟨RcAt.list_none hi (by omega), EqAt.list_none hi (by omega)⟩
    | bl b => obtain ⟨rfl, _⟩ := r2; cases (show u' = Value.bool b from q2); exact ⟨RcAt.list_bool b hi (by omega), EqAt.list_bool b hi (by omega)⟩
    | int j => obtain ⟨rfl, _⟩ := r2; obtain ⟨t, rfl⟩ := q2; exact ⟨RcAt.list_int j t hi (by omega), EqAt.list_int j t hi (by omega)⟩
    | str j => obtain ⟨rfl, _⟩ := r2; obtain ⟨t, rfl⟩ := q2; exact ⟨RcAt.list_str j t hi (by omega), EqAt.list_str j t hi (by omega)⟩
    | tup es =>
      obtain ⟨b, ws, rfl, k, rs2⟩ := rep_tup hC r2
      cases (show u' = Value.ref b from q2)
      obtain ⟨its2, _, p2, _⟩ := I.tuple k
      exact ⟨RcAt.list_tuple hi p2 (by omega), EqAt.list_tuple hi p2 (by omega)⟩
    | ty _ => simp [eqOk] at o2
    | dct _ _ _ => simp [eqOk] at o2
    | obj _ _ _ _ => simp [eqOk] at o2
    | lst g2 es =>
      cases n with
      | zero => simp [eqOk] at o1
      | succ n =>
        obtain ⟨b, ws, f', rfl, k, rs2⟩ := rep_list hC hF r2
        cases (show u' = Value.ref b from q2)
        obtain ⟨its2, rv2, p2, _⟩ := I.list k
        have hi2 := p2.isList
        have n1 := reps_vals rs rv
        have n2 := reps_vals rs2 rv2
        have he := rc_reps I hC hF ds es n A.in1 vs ws f f' its its2 (by simpa [eqOk] using o1) (by simpa [eqOk] using o2) rs rs2 rv rv2 (by show A.units + 1 + n + 1 < cLine; omega)
        have rc : RcAt A s (.ref a) (.ref b) (pyEqs ds es) := by
          by_cases hsz : ds.length = es.length
          · rw [← pyEqs_all hsz, n1]
            have := RcAt.lists (A := A) (e := fun j => pairE ds es j) hi hi2 (by simp; omega) (by omega) (fun j h1 h2 => by
              have := he j (by simpa using h1) (by simpa using h2)
              simpa using this)
            simpa using this
          · rw [pyEqs_len hsz]
            exact RcAt.lists_lengths hi hi2 (by simp; omega) (by omega)
        refine ⟨rc, ?_⟩
        by_cases hab : a = b
        · subst hab
          have := eq_same I hC hF _ _ (n + 1) _ f1 f2 o1 o2 r1' r2'
          rw [this]; exact EqAt.same _
        · exact EqAt.of_refs hab rc
  | .tup ds, e, n, A, v, w, f1, f2, u, u', o1, o2, r1, r2, q1, q2, hu => by
    have r1' := r1
    have r2' := r2
    obtain ⟨a, vs, rfl, q, rs⟩ := rep_tup hC r1
    cases (show u = Value.ref a from q1)
    obtain ⟨its, rv, p, _⟩ := I.tuple q
    have hi : s.heap.IsTuple a its.toArray := p
    cases e with
    | non => obtain ⟨rfl, _⟩ := r2; cases (show u' = Value.none from q2); exact ⟨RcAt.tuple_none hi (by omega), EqAt.tuple_none hi (by omega)⟩
    | bl b => obtain ⟨rfl, _⟩ := r2; cases (show u' = Value.bool b from q2); exact ⟨RcAt.tuple_bool b hi (by omega), EqAt.tuple_bool b hi (by omega)⟩
    | int j => obtain ⟨rfl, _⟩ := r2; obtain ⟨t, rfl⟩ := q2; exact ⟨RcAt.tuple_int j t hi (by omega), EqAt.tuple_int j t hi (by omega)⟩
    | str j => obtain ⟨rfl, _⟩ := r2; obtain ⟨t, rfl⟩ := q2; exact ⟨RcAt.tuple_str j t hi (by omega), EqAt.tuple_str j t hi (by omega)⟩
    | lst g es =>
      obtain ⟨b, ws, f, rfl, k, rs2⟩ := rep_list hC hF r2
      cases (show u' = Value.ref b from q2)
      obtain ⟨its2, _, p2, _⟩ := I.list k
      exact ⟨RcAt.tuple_list hi p2.isList (by omega), EqAt.tuple_list hi p2.isList (by omega)⟩
    | ty _ => simp [eqOk] at o2
    | dct _ _ _ => simp [eqOk] at o2
    | obj _ _ _ _ => simp [eqOk] at o2
    | tup es =>
      cases n with
      | zero => simp [eqOk] at o1
      | succ n =>
        obtain ⟨b, ws, rfl, k, rs2⟩ := rep_tup hC r2
        cases (show u' = Value.ref b from q2)
        obtain ⟨its2, rv2, p2, _⟩ := I.tuple k
        have hi2 : s.heap.IsTuple b its2.toArray := p2
        have n1 := reps_vals rs rv
        have n2 := reps_vals rs2 rv2
        have he := rc_reps I hC hF ds es n A.in1 vs ws f1 f2 its its2 (by simpa [eqOk] using o1) (by simpa [eqOk] using o2) rs rs2 rv rv2 (by show A.units + 1 + n + 1 < cLine; omega)
        have rc : RcAt A s (.ref a) (.ref b) (pyEqs ds es) := by
          have z := RcAt.tuples (A := A) (e := fun j => pairE ds es j) hi hi2 (by omega) (fun j h1 h2 => by
            have := he j (by simpa using h1) (by simpa using h2)
            simpa using this)
          have e2 : ((List.range (min its.toArray.size its2.toArray.size)).all (fun j => pairE ds es j) && its.toArray.size == its2.toArray.size) = pyEqs ds es := by
            rw [List.size_toArray, List.size_toArray, ← n1, ← n2]
            by_cases hsz : ds.length = es.length
            · rw [← pyEqs_all hsz, hsz]; simp
            · rw [pyEqs_len hsz]; simp [hsz]
          rw [e2] at z; exact z
        refine ⟨rc, ?_⟩
        by_cases hab : a = b
        · subst hab
          have := eq_same I hC hF _ _ (n + 1) _ f1 f2 o1 o2 r1' r2'
          rw [this]; exact EqAt.same _
        · exact EqAt.of_refs hab rc
theorem rc_reps (I : Inv X pins σ H s) (hC : C.At X) (hF : Fr C H) : ∀ (ds es : List D) (n : Nat) (A : Around) (vs ws : List V) (f1 f2 : List Addr) (us us' : List Value), eqOks n ds = true → eqOks n es = true → Reps C H ds vs f1 → Reps C H es ws f2 → Vals vs us → Vals ws us' → A.units + n + 1 < cLine →
    ∀ j (h1 : j < us.length) (h2 : j < us'.length), EqAt A s us[j] us'[j] (pairE ds es j)
  | [], es, n, A, vs, ws, f1, f2, us, us', o1, o2, r1, r2, q1, q2, hu => fun j h1 h2 => by
    have := reps_vals r1 q1
    simp at this; omega
  | d :: ds, [], n, A, vs, ws, f1, f2, us, us', o1, o2, r1, r2, q1, q2, hu => fun j h1 h2 => by
    have := reps_vals r2 q2
    simp at this; omega
  | d :: ds, e :: es, n, A, vs, ws, f1, f2, us, us', o1, o2, ⟨v, vs', g1, g2, e1, r1, rs1, _⟩, ⟨w, ws', k1, k2, e2, r2, rs2, _⟩, q1, q2, hu => fun j h1 h2 => by
    subst e1 e2
    simp only [eqOks, Bool.and_eq_true] at o1 o2
    cases q1 with
    | cons p1 q1 =>
      cases q2 with
      | cons p2 q2 =>
        cases j with
        | zero => exact (rc_rep I hC hF d e n A v w g1 k1 _ _ o1.1 o2.1 r1 r2 p1 p2 hu).2
        | succ j =>
          have := rc_reps I hC hF ds es n A vs' ws' g2 k2 _ _ o1.2 o2.2 rs1 rs2 q1 q2 hu j (by simpa using h1) (by simpa using h2)
          simpa [pairE] using this
end
end
def pEq (d e : D) : Option D := if eqOk 40 d && eqOk 40 e then some (.bl (pyEq d e)) else none
def pNe (d e : D) : Option D := if eqOk 40 d && eqOk 40 e then some (.bl (!pyEq d e)) else none
theorem pEq_inv {d e z} (h : pEq d e = some z) : eqOk 40 d = true ∧ eqOk 40 e = true ∧ z = .bl (pyEq d e) := by
  unfold pEq at h
  split at h
  · rename_i q; cases h; have := Bool.and_eq_true_iff.mp q; exact ⟨this.1, this.2, rfl⟩
  · cases h
theorem pNe_inv {d e z} (h : pNe d e = some z) : eqOk 40 d = true ∧ eqOk 40 e = true ∧ z = .bl (!pyEq d e) := by
  unfold pNe at h
  split at h
  · rename_i q; cases h; have := Bool.and_eq_true_iff.mp q; exact ⟨this.1, this.2, rfl⟩
  · cases h
theorem od_eq {k : Nat} (hr : Room k X.A) : OD2 X (compareOp .Eq) pEq := by
  intro pins s σ H x y v u Q I rx ry ⟨C, dx, dy, fx, fy, d, hC, hF, r1, r2, e, kk⟩
  obtain ⟨o1, o2, rfl⟩ := pEq_inv e
  have := (rc_rep I hC hF dx dy 40 X.A x y fx fy v u o1 o2 r1 r2 rx ry (by have := hr.units; omega)).1
  exact this X.prog X.w X.xe _ ⟨.bl _, H, I, rfl, kk.here ⟨rfl, rfl⟩⟩
end
end VS

set_option maxRecDepth 100000
namespace VS
open PySem L2 SeqAt
section
variable {X : Cx} {W : WX} {M M1 M2 M3 Rs R1 R2 R3 : List Nat} {e a b c : Expr} {es : List Expr} {ca cb cc : CE} {cs : CA} {pos : Pos}
variable {pins : List (Addr × Obj)} {σ : St} {H : Hp} {s : Shared} {C : Ctx}
theorem rcne_rep (I : Inv X pins σ H s) (hC : C.At X) (hF : Fr C H) : ∀ (d e : D) (n : Nat) (A : Around) (v w : V) (f1 f2 : List Addr) (u u' : Value), eqOk n d = true → eqOk n e = true → Rep C H d v f1 → Rep C H e w f2 → RelV v u → RelV w u' → A.units + n + 1 < cLine →
    RcNeAt A s u u' (!pyEq d e)
  | .ty i, e, n, A, v, w, f1, f2, u, u', o1, o2, r1, r2, q1, q2, hu => by simp [eqOk] at o1
  | .dct _ _ _, e, n, A, v, w, f1, f2, u, u', o1, o2, r1, r2, q1, q2, hu => by simp [eqOk] at o1
  | .obj _ _ _ _, e, n, A, v, w, f1, f2, u, u', o1, o2, r1, r2, q1, q2, hu => by simp [eqOk] at o1
  | .non, e, n, A, v, w, f1, f2, u, u', o1, o2, r1, r2, q1, q2, hu => by
    obtain ⟨rfl, _⟩ := r1
    cases (show u = Value.none from q1)
    cases e with
    | non => obtain ⟨rfl, _⟩ := r2; cases (show u' = Value.none from q2); exact RcNeAt.none_none
    | bl b => obtain ⟨rfl, _⟩ := r2; cases (show u' = Value.bool b from q2); exact RcNeAt.none_bool b
    | int j => obtain ⟨rfl, _⟩ := r2; obtain ⟨t, rfl⟩ := q2; exact RcNeAt.none_int j t
    | str j => obtain ⟨rfl, _⟩ := r2; obtain ⟨t, rfl⟩ := q2; exact RcNeAt.none_str j t
    | lst g es =>
      obtain ⟨a, vs, f, rfl, q, rs⟩ := rep_list hC hF r2
      cases (show u' = Value.ref a from q2)
      obtain ⟨its, _, p, _⟩ := I.list q
      exact RcNeAt.none_list p.isList (by omega)
    | tup es =>
      obtain ⟨a, vs, rfl, q, rs⟩ := rep_tup hC r2
      cases (show u' = Value.ref a from q2)
      obtain ⟨its, _, p, _⟩ := I.tuple q
      exact RcNeAt.none_tuple p (by omega)
    | ty _ => simp [eqOk] at o2
    | dct _ _ _ => simp [eqOk] at o2
    | obj _ _ _ _ => simp [eqOk] at o2
  | .bl x, e, n, A, v, w, f1, f2, u, u', o1, o2, r1, r2, q1, q2, hu => by
    obtain ⟨rfl, _⟩ := r1
    cases (show u = Value.bool x from q1)
    cases e with
    | non => obtain ⟨rfl, _⟩ := r2; cases (show u' = Value.none from q2); exact RcNeAt.bool_none x
    | bl b => obtain ⟨rfl, _⟩ := r2; cases (show u' = Value.bool b from q2); exact RcNeAt.bool_bool x b
    | int j => obtain ⟨rfl, _⟩ := r2; obtain ⟨t, rfl⟩ := q2; exact RcNeAt.bool_int x j t
    | str j => obtain ⟨rfl, _⟩ := r2; obtain ⟨t, rfl⟩ := q2; exact RcNeAt.bool_str x j t
    | lst g es =>
      obtain ⟨a, vs, f, rfl, q, rs⟩ := rep_list hC hF r2
      cases (show u' = Value.ref a from q2)
      obtain ⟨its, _, p, _⟩ := I.list q
      exact RcNeAt.bool_list x p.isList (by omega)
    | tup es =>
      obtain ⟨a, vs, rfl, q, rs⟩ := rep_tup hC r2
      cases (show u' = Value.ref a from q2)
      obtain ⟨its, _, p, _⟩ := I.tuple q
      exact RcNeAt.bool_tuple x p (by omega)
    | ty _ => simp [eqOk] at o2
    | dct _ _ _ => simp [eqOk] at o2
    | obj _ _ _ _ => simp [eqOk] at o2
  | .int x, e, n, A, v, w, f1, f2, u, u', o1, o2, r1, r2, q1, q2, hu => by
    obtain ⟨rfl, _⟩ := r1
    obtain ⟨t0, rfl⟩ := q1
    cases e with
    | non => obtain ⟨rfl, _⟩ := r2; cases (show u' = Value.none from q2); exact RcNeAt.int_none x t0
    | bl b => obtain ⟨rfl, _⟩ := r2; cases (show u' = Value.bool b from q2); exact RcNeAt.int_bool x t0 b
    | int j => obtain ⟨rfl, _⟩ := r2; obtain ⟨t, rfl⟩ := q2; exact RcNeAt.int_int x t0 j t
    | str j => obtain ⟨rfl, _⟩ := r2; obtain ⟨t, rfl⟩ := q2; exact RcNeAt.int_str x t0 j t
    | lst g es =>
      obtain ⟨a, vs, f, rfl, q, rs⟩ := rep_list hC hF r2
      cases (show u' = Value.ref a from q2)
      obtain ⟨its, _, p, _⟩ := I.list q
      exact RcNeAt.int_list x t0 p.isList (by omega)
    | tup es =>
      obtain ⟨a, vs, rfl, q, rs⟩ := rep_tup hC r2
      cases (show u' = Value.ref a from q2)
      obtain ⟨its, _, p, _⟩ := I.tuple q
      exact RcNeAt.int_tuple x t0 p (by omega)
    | ty _ => simp [eqOk] at o2
    | dct _ _ _ => simp [eqOk] at o2
    | obj _ _ _ _ => simp [eqOk] at o2
  | .str x, e, n, A, v, w, f1, f2, u, u', o1, o2, r1, r2, q1, q2, hu => by
    obtain ⟨rfl, _⟩ := r1
    obtain ⟨t0, rfl⟩ := q1
    cases e with
    | non => obtain ⟨rfl, _⟩ := r2; cases (show u' = Value.none from q2); exact RcNeAt.str_none x t0
    | bl b => obtain ⟨rfl, _⟩ := r2; cases (show u' = Value.bool b from q2); exact RcNeAt.str_bool x t0 b
    | int j => obtain ⟨rfl, _⟩ := r2; obtain ⟨t, rfl⟩ := q2; exact RcNeAt.str_int x t0 j t
    | str j => obtain ⟨rfl, _⟩ := r2; obtain ⟨t, rfl⟩ := q2; exact RcNeAt.str_str x t0 j t
    | lst g es =>
      obtain ⟨a, vs, f, rfl, q, rs⟩ := rep_list hC hF r2
      cases (show u' = Value.ref a from q2)
      obtain ⟨its, _, p, _⟩ := I.list q
      exact RcNeAt.str_list x t0 p.isList (by omega)
    | tup es =>
      obtain ⟨a, vs, rfl, q, rs⟩ := rep_tup hC r2
      cases (show u' = Value.ref a from q2)
      obtain ⟨its, _, p, _⟩ := I.tuple q
      exact RcNeAt.str_tuple x t0 p (by omega)
    | ty _ => simp [eqOk] at o2
    | dct _ _ _ => simp [eqOk] at o2
    | obj _ _ _ _ => simp [eqOk] at o2
  | .lst g ds, e, n, A, v, w, f1, f2, u, u', o1, o2, r1, r2, q1, q2, hu => by
    have r1' := r1
    have r2' := r2
    have q2' := q2
    obtain ⟨a, vs, f, rfl, q, rs⟩ := rep_list hC hF r1
    cases (show u = Value.ref a from q1)
    obtain ⟨its, rv, p, _⟩ := I.list q
    have hi := p.isList
    cases e with
    | non => obtain ⟨rfl, _⟩ := r2; cases (show u' = Value.none from q2); exact RcNeAt.list_none hi (by omega)
    | bl b => obtain ⟨rfl, _⟩ := r2; cases (show u' = Value.bool b from q2); exact RcNeAt.list_bool b hi (by omega)
    | int j => obtain ⟨rfl, _⟩ := r2; obtain ⟨t, rfl⟩ := q2; exact RcNeAt.list_int j t hi (by omega)
    | str j => obtain ⟨rfl, _⟩ := r2; obtain ⟨t, rfl⟩ := q2; exact RcNeAt.list_str j t hi (by omega)
    | tup es =>
      obtain ⟨b, ws, rfl, k, rs2⟩ := rep_tup hC r2
      cases (show u' = Value.ref b from q2)
      obtain ⟨its2, _, p2, _⟩ := I.tuple k
      exact RcNeAt.list_tuple hi p2 (by omega)
    | ty _ => simp [eqOk] at o2
    | dct _ _ _ => simp [eqOk] at o2
    | obj _ _ _ _ => simp [eqOk] at o2
    | lst g2 es =>
      cases n with
      | zero => simp [eqOk] at o1
      | succ n =>
        obtain ⟨b, ws, f', rfl, k, rs2⟩ := rep_list hC hF r2
        cases (show u' = Value.ref b from q2)
        obtain ⟨its2, rv2, p2, _⟩ := I.list k
        have hi2 := p2.isList
        have n1 := reps_vals rs rv
        have n2 := reps_vals rs2 rv2
        have he := rc_reps I hC hF ds es n A.in1 vs ws f f' its its2 (by simpa [eqOk] using o1) (by simpa [eqOk] using o2) rs rs2 rv rv2 (by show A.units + 1 + n + 1 < cLine; omega)
        show RcNeAt A s (.ref a) (.ref b) (!pyEqs ds es)
        by_cases hsz : ds.length = es.length
        · rw [← pyEqs_all hsz, n1]
          have := RcNeAt.lists (A := A) (e := fun j => pairE ds es j) hi hi2 (by simp; omega) (by omega) (fun j h1 h2 => by
            have := he j (by simpa using h1) (by simpa using h2)
            simpa using this)
          simpa using this
        · rw [pyEqs_len hsz]
          exact RcNeAt.lists_lengths hi hi2 (by simp; omega) (by omega)
  | .tup ds, e, n, A, v, w, f1, f2, u, u', o1, o2, r1, r2, q1, q2, hu => by
    have r1' := r1
    have r2' := r2
    obtain ⟨a, vs, rfl, q, rs⟩ := rep_tup hC r1
    cases (show u = Value.ref a from q1)
    obtain ⟨its, rv, p, _⟩ := I.tuple q
    have hi : s.heap.IsTuple a its.toArray := p
    cases e with
    | non => obtain ⟨rfl, _⟩ := r2; cases (show u' = Value.none from q2); exact RcNeAt.tuple_none hi (by omega)
    | bl b => obtain ⟨rfl, _⟩ := r2; cases (show u' = Value.bool b from q2); exact RcNeAt.tuple_bool b hi (by omega)
    | int j => obtain ⟨rfl, _⟩ := r2; obtain ⟨t, rfl⟩ := q2; exact RcNeAt.tuple_int j t hi (by omega)
    | str j => obtain ⟨rfl, _⟩ := r2; obtain ⟨t, rfl⟩ := q2; exact RcNeAt.tuple_str j t hi (by omega)
    | lst g es =>
      obtain ⟨b, ws, f, rfl, k, rs2⟩ := rep_list hC hF r2
      cases (show u' = Value.ref b from q2)
      obtain ⟨its2, _, p2, _⟩ := I.list k
      exact RcNeAt.tuple_list hi p2.isList (by omega)
    | ty _ => simp [eqOk] at o2
    | dct _ _ _ => simp [eqOk] at o2
    | obj _ _ _ _ => simp [eqOk] at o2
    | tup es =>
      cases n with
      | zero => simp [eqOk] at o1
      | succ n =>
        obtain ⟨b, ws, rfl, k, rs2⟩ := rep_tup hC r2
        cases (show u' = Value.ref b from q2)
        obtain ⟨its2, rv2, p2, _⟩ := I.tuple k
        have hi2 : s.heap.IsTuple b its2.toArray := p2
        have n1 := reps_vals rs rv
        have n2 := reps_vals rs2 rv2
        have he := rc_reps I hC hF ds es n A.in1 vs ws f1 f2 its its2 (by simpa [eqOk] using o1) (by simpa [eqOk] using o2) rs rs2 rv rv2 (by show A.units + 1 + n + 1 < cLine; omega)
        show RcNeAt A s (.ref a) (.ref b) (!pyEqs ds es)
        have z := RcNeAt.tuples (A := A) (e := fun j => pairE ds es j) hi hi2 (by omega) (fun j h1 h2 => by
          have := he j (by simpa using h1) (by simpa using h2)
          simpa using this)
        have e2 : ((List.range (min its.toArray.size its2.toArray.size)).all (fun j => pairE ds es j) && its.toArray.size == its2.toArray.size) = pyEqs ds es := by
          rw [List.size_toArray, List.size_toArray, ← n1, ← n2]
          by_cases hsz : ds.length = es.length
          · rw [← pyEqs_all hsz, hsz]; simp
          · rw [pyEqs_len hsz]; simp [hsz]
        rw [e2] at z; exact z

theorem od_ne {k : Nat} (hr : Room k X.A) : OD2 X (compareOp .NotEq) pNe := by
  intro pins s σ H x y v u Q I rx ry ⟨C, dx, dy, fx, fy, d, hC, hF, r1, r2, e, kk⟩
  obtain ⟨o1, o2, rfl⟩ := pNe_inv e
  have := rcne_rep I hC hF dx dy 40 X.A x y fx fy v u o1 o2 r1 r2 rx ry (by have := hr.units; omega)
  exact this X.prog X.w X.xe _ ⟨.bl _, H, I, rfl, kk.here ⟨rfl, rfl⟩⟩

/-! ### is -/
def pIs : D → D → Option D
  | .non, .non => some (.bl true)
  | .bl a, .bl b => some (.bl (decide (a = b)))
  | .tup _, .non => some (.bl false)
  | .lst _ _, .non => some (.bl false)
  | .dct _ _ _, .non => some (.bl false)
  | .obj _ _ _ _, .non => some (.bl false)
  | .int _, .non => some (.bl false)
  | .str _, .non => some (.bl false)
  | .bl _, .non => some (.bl false)
  | _, _ => none
def pIsNot (d e : D) : Option D := match pIs d e with
  | some (.bl b) => some (.bl (!b))
  | _ => none
def rIs (neg : Bool) : L2.R2 := fun x y H Q => (y = .non ∧ Q (.bl (if neg then !decide (x = .non) else decide (x = .non))) H) ∨ ∃ a b, x = .bl a ∧ y = .bl b ∧ Q (.bl (if neg then !decide (a = b) else decide (a = b))) H
theorem op_is2 : OpR X (compareOp .Is) (rIs false) := OpR.or op_isN (by
  intro pins s σ H x y v u Q I rx ry ⟨a, b, e1, e2, q⟩
  exact op_is_bl pins s σ H x y v u Q I rx ry ⟨a, b, e1, e2, q⟩)
theorem op_isnot2 : OpR X (compareOp .IsNot) (rIs true) := OpR.or op_notN (by
  intro pins s σ H x y v u Q I rx ry ⟨a, b, e1, e2, q⟩
  exact op_isnot_bl pins s σ H x y v u Q I rx ry ⟨a, b, e1, e2, q⟩)
theorem pIs_cases {C : Ctx} {H : Hp} {dx dy d : D} {x y : V} {fx fy} (e : pIs dx dy = some d) (r1 : Rep C H dx x fx) (r2 : Rep C H dy y fy) :
    ∃ k, d = .bl k ∧ ((y = .non ∧ k = decide (x = .non)) ∨ ∃ a b, x = .bl a ∧ y = .bl b ∧ k = decide (a = b)) := by
  cases dx <;> cases dy <;> simp [pIs] at e <;> subst e
  case non.non => obtain ⟨rfl, _⟩ := r1; obtain ⟨rfl, _⟩ := r2; exact ⟨_, rfl, .inl ⟨rfl, by simp⟩⟩
  case bl.bl a b => obtain ⟨rfl, _⟩ := r1; obtain ⟨rfl, _⟩ := r2; exact ⟨_, rfl, .inr ⟨a, b, rfl, rfl, by first | rfl | simp⟩⟩
  case bl.non => obtain ⟨rfl, _⟩ := r1; obtain ⟨rfl, _⟩ := r2; exact ⟨_, rfl, .inl ⟨rfl, by simp⟩⟩
  case int.non => obtain ⟨rfl, _⟩ := r1; obtain ⟨rfl, _⟩ := r2; exact ⟨_, rfl, .inl ⟨rfl, by simp⟩⟩
  case str.non => obtain ⟨rfl, _⟩ := r1; obtain ⟨rfl, _⟩ := r2; exact ⟨_, rfl, .inl ⟨rfl, by simp⟩⟩
  case tup.non => obtain ⟨a, vs, rfl, _⟩ := r1; obtain ⟨rfl, _⟩ := r2; exact ⟨_, rfl, .inl ⟨rfl, by simp⟩⟩
  case lst.non => obtain ⟨a, vs, f1, f2, rfl, _⟩ := r1; obtain ⟨rfl, _⟩ := r2; exact ⟨_, rfl, .inl ⟨rfl, by simp⟩⟩
  case dct.non => obtain ⟨a, vs, f1, f2, rfl, _⟩ := r1; obtain ⟨rfl, _⟩ := r2; exact ⟨_, rfl, .inl ⟨rfl, by simp⟩⟩
  case obj.non => obtain ⟨a, _, _, _, _, _, rfl, _⟩ := r1; obtain ⟨rfl, _⟩ := r2; exact ⟨_, rfl, .inl ⟨rfl, by simp⟩⟩
theorem od_is : OD2 X (compareOp .Is) pIs := by
  refine OD2.of op_is2 fun x y H Q ⟨C, dx, dy, fx, fy, d, hC, hF, r1, r2, e, k⟩ => ?_
  obtain ⟨b, rfl, ⟨h1, h2⟩ | ⟨a, a', h1, h2, h3⟩⟩ := pIs_cases e r1 r2
  · refine .inl ⟨h1, ?_⟩
    rw [if_neg (by simp), ← h2]
    exact k.here ⟨rfl, rfl⟩
  · refine .inr ⟨a, a', h1, h2, ?_⟩
    rw [if_neg (by simp), ← h3]
    exact k.here ⟨rfl, rfl⟩
theorem od_isnot : OD2 X (compareOp .IsNot) pIsNot := by
  refine OD2.of op_isnot2 fun x y H Q ⟨C, dx, dy, fx, fy, d, hC, hF, r1, r2, e, k⟩ => ?_
  unfold pIsNot at e
  cases e1 : pIs dx dy with
  | none => rw [e1] at e; cases e
  | some z =>
    obtain ⟨b, rfl, ⟨h1, h2⟩ | ⟨a, a', h1, h2, h3⟩⟩ := pIs_cases e1 r1 r2
    · rw [e1] at e; cases e
      refine .inl ⟨h1, ?_⟩
      rw [if_pos rfl, ← h2]
      exact k.here ⟨rfl, rfl⟩
    · rw [e1] at e; cases e
      refine .inr ⟨a, a', h1, h2, ?_⟩
      rw [if_pos rfl, ← h3]
      exact k.here ⟨rfl, rfl⟩

/-! ### chains of two comparisons: the middle one an int name or number -/
def cChain (p q : D → D → Option D) (ca cb cc : CE) : CE := fun env => (cTwo ca cb env).bind fun xy env => match p xy.1 xy.2 with
  | some (.bl true) => (cc env).bind fun z env => R.of (q xy.2 z) env
  | some (.bl false) => .ok (.bl false) env
  | _ => .err
theorem chain_go {op op' : CmpOp} {p q : D → D → Option D} (ho : OD2 X (compareOp op) p) (ho' : OD2 X (compareOp op') q) (ha : SB X W M1 R1 a ca) (hb : SB X W M2 R2 b cb) (hc : SB X W M3 R3 c cc)
    (hd : djB R1 M2 = true) (hd2 : djB R2 M3 = true) :
    ∃ ta tb tc, PE X a ta ∧ PE X b tb ∧ PE X c tc ∧ ∀ C fs env σ H tf Q, C.At X → Good C fs env σ H tf → PostO W C (M1 ++ M2 ++ M3) tf fs env σ H Q (cChain p q ca cb cc env) → tChain (rD2 X p) (rD2 X q) ta tb tc σ H Q := by
  obtain ⟨ta, tb, pa, pb, h2⟩ := two_go ha hb hd
  obtain ⟨tc, pc, h3⟩ := hc.go
  refine ⟨ta, tb, tc, pa, pb, pc, fun C fs env σ H tf Q hC G po => ?_⟩
  show ta σ H fun x H1 => tb σ H1 fun y H2 => _
  refine h2 C fs env σ H tf _ hC G ?_
  unfold cChain at po
  cases e1 : cTwo ca cb env with
  | err => rw [e1] at po; exact po
  | ex x env' => rw [e1] at po; exact fun cv dd fs' H' G' s => po cv dd fs' H' G' (s.weak (fun i hi => List.mem_append_left _ hi) fun _ z => z)
  | ok xy env1 =>
    rw [e1] at po
    intro x y fs1 H1 f1 f2 own G1 s1 r1 r2 i1 i2
    have po' : PostO W C (M1 ++ M2 ++ M3) tf fs env σ H Q (match p xy.1 xy.2 with
      | some (.bl true) => (cc env1).bind fun z env => R.of (q xy.2 z) env
      | some (.bl false) => .ok (.bl false) env1
      | _ => .err) := po
    cases e2 : p xy.1 xy.2 with
    | none => rw [e2] at po'; exact po'.elim
    | some z =>
      cases z with
      | bl k =>
        cases k with
        | false =>
          rw [e2] at po'
          refine ⟨C, xy.1, xy.2, f1, f2, .bl false, hC, G1.fr, r1, r2, e2, fun v H2 fp le rv nd nw => ?_⟩
          obtain ⟨rfl, hf⟩ := rv
          refine ⟨false, rfl, ?_⟩
          rw [if_neg Bool.false_ne_true]
          refine po' (.bl false) fs1 H2 [] (by simpa using G1.drop.le' le) ?_ ⟨rfl, rfl⟩
          have := (s1.trans (Step.grow (M := []) G1.drop le)).weak (M' := M1 ++ M2 ++ M3) (fun i hi => by simp at hi; simp [hi]; rcases hi with h | h <;> simp [h]) fun _ z => z
          exact this
        | true =>
          rw [e2] at po'
          refine ⟨C, xy.1, xy.2, f1, f2, .bl true, hC, G1.fr, r1, r2, e2, fun v H2 fp le rv nd nw => ?_⟩
          obtain ⟨rfl, hf⟩ := rv
          refine ⟨true, rfl, ?_⟩
          rw [if_pos rfl]
          have G2 := G1.le' le
          have s2 := s1.trans (Step.grow (M := []) G1.drop le)
          refine h3 C fs1 env1 σ H2 (own ++ tf) _ hC G2 ?_
          have po2 : PostO W C (M1 ++ M2 ++ M3) tf fs env σ H Q ((cc env1).bind fun z env => R.of (q xy.2 z) env) := po'
          have wk : ∀ {fs' env' H'}, Step M3 (own ++ tf) fs1 env1 H2 fs' env' H' → Step (M1 ++ M2 ++ M3) tf fs env H fs' env' H' := fun {fs' env' H'} s => by
            have := s2.trans (s.weak (fun _ z => z) fun x hx => List.mem_append_right _ hx)
            refine this.weak (fun i hi => ?_) fun _ z => z
            simpa using hi
          cases e3 : cc env1 with
          | err => rw [e3] at po2; exact po2
          | ex x env' => rw [e3] at po2; exact fun cv dd fs' H' G' s => po2 cv dd fs' H' G'.drop (wk s)
          | ok z env2 =>
            rw [e3] at po2
            intro zv fs3 H3 f3 own3 G3 s3 r3 i3
            have po3 : PostO W C (M1 ++ M2 ++ M3) tf fs env σ H Q (R.of (q xy.2 z) env2) := po2
            cases e4 : q xy.2 z with
            | none => rw [e4] at po3; exact po3.elim
            | some zz =>
              rw [e4] at po3
              have G3' : Good C fs3 env2 σ H3 ((own3 ++ own) ++ tf) := by rw [List.append_assoc]; exact G3
              have k2 := i2.keep s3 (djB_ok hd2)
              have r2' : Rep C H3 xy.2 y f2 := (r2.le le).keep k2 s3.m
              exact ⟨C, xy.2, z, f2, f3, zz, hC, G3.fr, r2', r3, e4, comes_post G3' (wk s3) po3⟩
      | _ => rw [e2] at po'; exact po'.elim
theorem so_chain {op op' : CmpOp} {p q : D → D → Option D} (ho : OD2 X (compareOp op) p) (ho' : OD2 X (compareOp op') q) (ha : SB X W M1 R1 a ca) (hb : SB X W M2 R2 b cb) (hc : SB X W M3 R3 c cc)
    (hd : djB R1 M2 = true := by decide) (hd2 : djB R2 M3 = true := by decide) (hm : lastMarks [op, op'] [b, c] = false := by with_unfolding_all rfl) : SO X W (M1 ++ M2 ++ M3) (.Compare a [op, op'] [b, c] pos) (cChain p q ca cb cc) := by
  obtain ⟨ta, tb, tc, pa, pb, pc, h⟩ := chain_go ho ho' ha hb hc hd hd2
  exact ⟨_, pe_chain ho ho' pa pb pc hm, h⟩
theorem st_chain {op op' : CmpOp} {p q : D → D → Option D} (ho : OD2 X (compareOp op) p) (ho' : OD2 X (compareOp op') q) (ha : SB X W M1 R1 a ca) (hb : SB X W M2 R2 b cb) (hc : SB X W M3 R3 c cc)
    (hd : djB R1 M2 = true := by decide) (hd2 : djB R2 M3 = true := by decide) (hm : lastMarks [op, op'] [b, c] = false := by with_unfolding_all rfl) : ST X W (M1 ++ M2 ++ M3) (.Compare a [op, op'] [b, c] pos) (cTt (cChain p q ca cb cc)) := by
  obtain ⟨ta, tb, tc, pa, pb, pc, h⟩ := chain_go ho ho' ha hb hc hd hd2
  exact st_tt (Rs := []) (t := tChain (rD2 X p) (rD2 X q) ta tb tc) (pt_chain ho ho' pa pb pc hm) fun C fs env σ H tf Q hC G po => h C fs env σ H tf Q hC G (post_ob po)

/-! ### and, or, not as values; a if t else b -/
def cAnd (ca cb : CE) : CE := fun env => (ca env).bind fun d env => match d with
  | .bl true => cb env
  | .bl false => .ok (.bl false) env
  | _ => .err
def cOr (ca cb : CE) : CE := fun env => (ca env).bind fun d env => match d with
  | .bl true => .ok (.bl true) env
  | .bl false => cb env
  | _ => .err
def cNot (ca : CE) : CE := fun env => (ca env).bind fun d env => match d with
  | .bl b => .ok (.bl (!b)) env
  | _ => .err
/-- one owned thing, then another step -/
theorem seqO {fs : FPs} {env : Env} {H : Hp} {tf : List Addr} {Q : VK} {f : D → CE} {t : TE} (hC : C.At X) (G : Good C fs env σ H tf)
    (ht : ∀ C fs env σ H tf Q, C.At X → Good C fs env σ H tf → PostB W C M1 R1 tf fs env σ H Q (ca env) → t σ H Q)
    (po : PostO W C (M1 ++ M2) tf fs env σ H Q ((ca env).bind f)) {K : VK}
    (hK : ∀ d v fs1 env1 H1 fp own, Good C fs1 env1 σ H1 (own ++ tf) → Step M1 tf fs env H fs1 env1 H1 → Rep C H1 d v fp → In R1 own fs1 fp → PostO W C (M1 ++ M2) tf fs env σ H Q (f d env1) → K v H1) : t σ H K := by
  refine ht C fs env σ H tf _ hC G ?_
  cases e1 : ca env with
  | err => rw [e1] at po; exact po
  | ex x env' =>
    rw [e1] at po
    exact fun cv dd fs' H' G' s => po cv dd fs' H' G' (s.weak (fun i hi => List.mem_append_left _ hi) fun _ z => z)
  | ok d env1 =>
    rw [e1] at po
    exact fun v fs1 H1 fp own G1 s1 r1 i1 => hK d v fs1 env1 H1 fp own G1 s1 r1 i1 po
theorem PostO.step {fs fs1 : FPs} {env env1 : Env} {H H1 : Hp} {tf : List Addr} {Q : VK} {z : R D} (s1 : Step M1 tf fs env H fs1 env1 H1) (po : PostO W C (M1 ++ M2) tf fs env σ H Q z) : PostO W C M2 tf fs1 env1 σ H1 Q z := by
  cases z with
  | err => exact po
  | ex x env' => exact fun cv dd fs' H' G' s => po cv dd fs' H' G' (s1.trans s)
  | ok d env' => exact fun v fs' H' fp G' s r => po v fs' H' fp G' (s1.trans s) r
theorem PostO.done {fs fs1 : FPs} {env env1 : Env} {H H1 : Hp} {tf : List Addr} {Q : VK} {d : D} {v : V} (s1 : Step M1 tf fs env H fs1 env1 H1) (po : PostO W C (M1 ++ M2) tf fs env σ H Q (.ok d env1)) (G1 : Good C fs1 env1 σ H1 tf) (r : Rep C H1 d v []) : Q v H1 :=
  po v fs1 H1 [] (by simpa using G1) (s1.weak (fun i hi => List.mem_append_left _ hi) fun _ z => z) r
theorem so_and (ha : SB X W M1 R1 a ca) (hb : SO X W M2 (.BoolOp .And (b :: es) pos) cb) : SO X W (M1 ++ M2) (.BoolOp .And (a :: b :: es) pos) (cAnd ca cb) := by
  obtain ⟨t, p, q⟩ := ha.go
  obtain ⟨t2, p2, q2⟩ := hb.go
  refine ⟨tAndV t t2, pe_and p p2, fun C fs env σ H tf Q hC G po => ?_⟩
  refine seqO (M1 := M1) (M2 := M2) (R1 := R1) (ca := ca) hC G q po fun d v fs1 env1 H1 fp own G1 s1 r1 i1 po1 => ?_
  cases d with
  | bl k =>
    obtain ⟨rfl, _⟩ := r1
    refine ⟨k, rfl, ?_⟩
    cases k with
    | true => exact q2 C fs1 env1 σ H1 tf Q hC G1.drop (po1.step s1)
    | false => exact po1.done s1 G1.drop ⟨rfl, rfl⟩
  | _ => exact po1.elim
theorem so_or (ha : SB X W M1 R1 a ca) (hb : SO X W M2 (.BoolOp .Or (b :: es) pos) cb) : SO X W (M1 ++ M2) (.BoolOp .Or (a :: b :: es) pos) (cOr ca cb) := by
  obtain ⟨t, p, q⟩ := ha.go
  obtain ⟨t2, p2, q2⟩ := hb.go
  refine ⟨tOrV t t2, pe_or p p2, fun C fs env σ H tf Q hC G po => ?_⟩
  refine seqO (M1 := M1) (M2 := M2) (R1 := R1) (ca := ca) hC G q po fun d v fs1 env1 H1 fp own G1 s1 r1 i1 po1 => ?_
  cases d with
  | bl k =>
    obtain ⟨rfl, _⟩ := r1
    refine ⟨k, rfl, ?_⟩
    cases k with
    | false => exact q2 C fs1 env1 σ H1 tf Q hC G1.drop (po1.step s1)
    | true => exact po1.done s1 G1.drop ⟨rfl, rfl⟩
  | _ => exact po1.elim
theorem so_one {op} (ha : SO X W M1 a ca) : SO X W M1 (.BoolOp op [a] pos) ca := by
  obtain ⟨t, p, q⟩ := ha.go
  exact ⟨t, pe_one p, q⟩
theorem so_not (ha : SB X W M1 R1 a ca) : SO X W M1 (.UnaryOp .Not a pos) (cNot ca) := by
  obtain ⟨t, p, q⟩ := ha.go
  refine ⟨tNotV t, pe_not p, fun C fs env σ H tf Q hC G po => ?_⟩
  refine seqO (M1 := M1) (M2 := []) (R1 := R1) (ca := ca) hC G q (by rw [List.append_nil]; exact po) fun d v fs1 env1 H1 fp own G1 s1 r1 i1 po1 => ?_
  cases d with
  | bl k =>
    obtain ⟨rfl, _⟩ := r1
    exact ⟨k, rfl, po1.done s1 G1.drop ⟨rfl, rfl⟩⟩
  | _ => exact po1.elim
def cIf (ct : CT) (ca cb : CE) : CE := fun env => (ct env).bind fun k env => if k = true then ca env else cb env
variable {ct : CT}
theorem so_ifE (hc : ST X W M1 c ct) (ha : SO X W M2 a ca) (hb : SO X W M3 b cb) : SO X W (M1 ++ (M2 ++ M3)) (.IfExp c a b pos) (cIf ct ca cb) := by
  obtain ⟨t, p, q⟩ := hc.go
  obtain ⟨t2, p2, q2⟩ := ha.go
  obtain ⟨t3, p3, q3⟩ := hb.go
  refine ⟨tIf t t2 t3, pe_ifExp p p2 p3, fun C fs env σ H tf Q hC G po => q C fs env σ H tf _ hC G ?_⟩
  unfold cIf at po
  cases e1 : ct env with
  | err => rw [e1] at po; exact po
  | ex x env' => rw [e1] at po; exact fun cv dd fs' H' G' s => po cv dd fs' H' G' (s.weak (fun i hi => List.mem_append_left _ hi) fun _ z => z)
  | ok k env1 =>
    rw [e1] at po
    intro fs1 H1 G1 s1
    have po1 : PostO W C (M1 ++ (M2 ++ M3)) tf fs env σ H Q (if k = true then ca env1 else cb env1) := po
    cases k with
    | true =>
      refine q2 C fs1 env1 σ H1 tf Q hC G1 ?_
      have := PostO.step (M2 := M2 ++ M3) s1 po1
      rw [if_pos rfl] at this
      cases z : ca env1 with
      | err => rw [z] at this; exact this
      | ex x env' => rw [z] at this; exact fun cv dd fs' H' G' s => this cv dd fs' H' G' (s.weak (fun i hi => List.mem_append_left _ hi) fun _ z => z)
      | ok d env' => rw [z] at this; exact fun v fs' H' fp G' s r => this v fs' H' fp G' (s.weak (fun i hi => List.mem_append_left _ hi) fun _ z => z) r
    | false =>
      refine q3 C fs1 env1 σ H1 tf Q hC G1 ?_
      have := PostO.step (M2 := M2 ++ M3) s1 po1
      rw [if_neg Bool.false_ne_true] at this
      cases z : cb env1 with
      | err => rw [z] at this; exact this
      | ex x env' => rw [z] at this; exact fun cv dd fs' H' G' s => this cv dd fs' H' G' (s.weak (fun i hi => List.mem_append_right _ hi) fun _ z => z)
      | ok d env' => rw [z] at this; exact fun v fs' H' fp G' s r => this v fs' H' fp G' (s.weak (fun i hi => List.mem_append_right _ hi) fun _ z => z) r
end
end VS

set_option maxRecDepth 100000
namespace VS
open PySem L2 SeqAt
section
variable {X : Cx} {W : WX} {M M1 M2 M3 Rs R1 R2 R3 : List Nat} {e a b c : Expr} {es : List Expr} {ca cb cc : CE} {cs : CA} {pos p : Pos}
variable {pins : List (Addr × Obj)} {σ : St} {H : Hp} {s : Shared} {C : Ctx}

/-! ### keys, look-ups -/
def D.key : D → Option Key
  | .int i => some (.inl i)
  | .str s => some (.inr s)
  | _ => none
theorem key_of {d : D} {k : Key} {v : V} {fp} (h : d.key = some k) (r : Rep C H d v fp) : v = kV k := by
  cases d <;> simp [D.key] at h <;> subst h
  · exact r.1
  · exact r.1
def lookD : List Key → List D → Key → Option D
  | k0 :: ks, d :: ds, k => if k0 = k then some d else lookD ks ds k
  | _, _, _ => none
theorem look_rep : ∀ {kvs : List (Key × V)} {ds : List D} {fp : List Addr} {k : Key} {d : D}, Reps C H ds (kvs.map (·.2)) fp → lookD (kvs.map (·.1)) ds k = some d →
    ∃ v g1 f g2, valV kvs k = some v ∧ Rep C H d v f ∧ fp = g1 ++ f ++ g2
  | [], ds, fp, k, d, r, h => by simp [lookD] at h
  | kv :: kvs, [], fp, k, d, r, h => by simp [lookD] at h
  | kv :: kvs, d0 :: ds, fp, k, d, ⟨v, vs', f1, f2, e, r, rs, e2⟩, h => by
    simp only [List.map_cons, List.cons.injEq] at e
    obtain ⟨rfl, rfl⟩ := e
    simp only [List.map_cons, lookD] at h
    by_cases hk : kv.1 = k
    · rw [if_pos hk] at h
      cases h
      exact ⟨kv.2, [], f1, f2, valV_pos hk, r, by simpa using e2⟩
    · rw [if_neg hk] at h
      obtain ⟨w, g1, f, g2, h1, h2, h3⟩ := look_rep rs h
      exact ⟨w, f1 ++ g1, f, g2, by rw [valV_neg hk]; exact h1, h2, by rw [e2, h3]; simp [List.append_assoc]⟩
theorem look_none : ∀ {kvs : List (Key × V)} {ds : List D} {fp : List Addr} {k : Key}, Reps C H ds (kvs.map (·.2)) fp → lookD (kvs.map (·.1)) ds k = none → valV kvs k = none
  | [], ds, fp, k, r, h => rfl
  | kv :: kvs, [], fp, k, ⟨h1, _⟩, h => by simp at h1
  | kv :: kvs, d0 :: ds, fp, k, ⟨v, vs', f1, f2, e, r, rs, e2⟩, h => by
    simp only [List.map_cons, List.cons.injEq] at e
    obtain ⟨rfl, rfl⟩ := e
    simp only [List.map_cons, lookD] at h
    by_cases hk : kv.1 = k
    · rw [if_pos hk] at h; cases h
    · rw [if_neg hk] at h
      rw [valV_neg hk]; exact look_none rs h
theorem rep_dct {g ks ds v fp} (hF : Fr C H) (r : Rep C H (.dct g ks ds) v fp) : ∃ a kvs f1 f, v = .ref a ∧ Rd H a (.dK kvs) ∧ kvs.map (·.1) = ks ∧ Reps C H ds (kvs.map (·.2)) f ∧ fp = f1 ++ f := by
  obtain ⟨a, kvs, f1, f2, e, n, q, r, _, e2⟩ := r
  exact ⟨a, kvs, f1, f2, e, (Nd.rd n hF).rd (fun xs z => nomatch z), q.1, r, e2⟩
theorem atI_reps {ds : List D} {vs : List V} {fp : List Addr} {i : Int} {d : D} (r : Reps C H ds vs fp) (h : atI ds i = some d) : ∃ v g1 f g2, atI vs i = some v ∧ Rep C H d v f ∧ fp = g1 ++ f ++ g2 := by
  unfold atI at h ⊢
  rw [reps_length r] at h
  cases e : ixN vs.length i with
  | none => rw [e] at h; cases h
  | some j =>
    rw [e] at h
    exact reps_get r h

/-! ### a[b] -/
def ixD : D → D → Option D
  | .lst _ ds, .int i => atI ds i
  | .tup ds, .int i => atI ds i
  | .str s, .int i => if s.length ≤ sizeLine then (atI s.cps.toList i).map fun c => .str ⟨#[c]⟩ else none
  | .dct _ ks ds, k => k.key.bind fun k => lookD ks ds k
  | _, _ => none
def rIxD : L2.R2 := fun x y H Q => ∃ a v, x = .ref a ∧ DGet H a y (some v) ∧ Q v H
theorem ix_dict {k : Nat} (hr : Room k X.A) : IxR X rIxD := by
  intro value slice pins s σ H x y v u Q I rx ry h hs
  obtain ⟨a, z, rfl, g, q⟩ := h
  cases rx
  refine PyProof.Rows.tail_any (ops := [.ref a, u]) (dict_typeIs I g) PySem.F.slot_dict_getitem.lookup ?_ hs
  exact d_getItem (by have := hr.units; omega) I g ry fun w' s' I' r' => ⟨z, H, I', r', q⟩
def cIdx (ca cb : CE) : CE := c2 ixD ca cb
theorem sb_idx {k : Nat} (hr : Room k X.A) (ha : SB X W M1 R1 a ca) (hb : SB X W M2 R2 b cb) (hs : PlainIx b := by exact fun _ _ => rfl) (hd : djB R1 M2 = true := by decide) : SB X W (M1 ++ M2) R1 (.Subscript a b pos) (cIdx ca cb) := by
  obtain ⟨ta, tb, pa, pb, q⟩ := two_go ha hb hd
  refine ⟨tOp (fun x y H Q => rIx X.K x y H Q ∨ rIxD x y H Q) ta tb, pe_ix (ix_seq.or (ix_dict hr)) pa pb hs, fun C fs env σ H tf Q hC G po => q C fs env σ H tf _ hC G ?_⟩
  unfold cIdx c2 at po
  cases e1 : cTwo ca cb env with
  | err => rw [e1] at po; exact po
  | ex x env' => rw [e1] at po; exact po
  | ok d env' =>
    rw [e1] at po
    intro x y fs' H' f1 f2 own G' s r1 r2 i1 i2
    have po' : PostB W C (M1 ++ M2) R1 tf fs env σ H Q (R.of (ixD d.1 d.2) env') := po
    cases e2 : ixD d.1 d.2 with
    | none => rw [e2] at po'; exact po'.elim
    | some z =>
      rw [e2] at po'
      obtain ⟨d1, d2⟩ := d
      have sub : ∀ {g1 f g2 : List Addr}, (∀ b ∈ g1 ++ f ++ g2, b ∈ f1) → In R1 own fs' f := fun {g1 f g2} h b hb => i1 b (h b (by simp [hb]))
      have fin : ∀ (v : V) (g1 f g2 : List Addr), Rep C H' z v f → (∀ b ∈ g1 ++ f ++ g2, b ∈ f1) → Q v H' := fun v g1 f g2 rv hf => po' v fs' H' f own G' s rv (sub hf)
      cases d1 with
      | lst g ds =>
        cases d2 with
        | int i =>
          obtain ⟨ad, vs, g1, g2, rfl, n, rs, _, ef⟩ := r1
          obtain ⟨rfl, _⟩ := r2
          obtain ⟨v, k1, f, k2, h1, h2, h3⟩ := atI_reps rs e2
          refine .inl (.inl ⟨ad, vs, i, v, rfl, rfl, by have := (Nd.rd n G'.fr).sql; rwa [hC.1] at this, h1, fin v k1 f k2 h2 fun b hb => ?_⟩)
          rw [ef, h3]; exact List.mem_append_right _ hb
        | _ => simp [ixD] at e2
      | tup ds =>
        cases d2 with
        | int i =>
          obtain ⟨ad, vs, rfl, n, rs⟩ := r1
          obtain ⟨rfl, _⟩ := r2
          obtain ⟨v, k1, f, k2, h1, h2, h3⟩ := atI_reps rs e2
          refine .inl (.inr (.inl ⟨ad, vs, i, v, rfl, rfl, by rwa [hC.1] at n, h1, fin v k1 f k2 h2 fun b hb => ?_⟩))
          rw [h3]; exact hb
        | _ => simp [ixD] at e2
      | str z0 =>
        cases d2 with
        | int i =>
          obtain ⟨rfl, _⟩ := r1
          obtain ⟨rfl, _⟩ := r2
          simp only [ixD] at e2
          split at e2
          · rename_i hz
            obtain ⟨ch, h1, rfl⟩ := Option.map_eq_some_iff.mp e2
            exact .inl (.inr (.inr ⟨z0, i, ch, rfl, rfl, hz, h1, fin _ [] [] [] ⟨rfl, rfl⟩ (fun b hb => by simp at hb)⟩))
          · cases e2
        | _ => simp [ixD] at e2
      | dct g ks ds =>
        obtain ⟨ad, kvs, g1, g2, rfl, hd', hk, rs, ef⟩ := rep_dct G'.fr r1
        cases hk2 : d2.key with
        | none => simp [ixD, hk2] at e2
        | some ky =>
          simp only [ixD, hk2, Option.bind_some] at e2
          rw [← hk] at e2
          obtain ⟨v, k1, f, k2, h1, h2, h3⟩ := look_rep rs e2
          have ey := key_of hk2 r2
          refine .inr ⟨ad, v, rfl, .inl ⟨kvs, ky, hd', ey, h1.symm⟩, fin v k1 f k2 h2 fun b hb => ?_⟩
          rw [ef, h3]; exact List.mem_append_right _ hb
      | _ => simp [ixD] at e2

/-! ### in -/
mutual
theorem eq_cong (I : Inv X pins σ H s) (hC : C.At X) (hF : Fr C H) : ∀ (d e : D) (n : Nat) (v : V) (f1 f2 : List Addr), eqOk n d = true → eqOk n e = true → Rep C H d v f1 → Rep C H e v f2 → ∀ x, pyEq d x = pyEq e x
  | .non, e, n, v, f1, f2, o1, o2, r1, r2 => by
    obtain ⟨rfl, _⟩ := r1
    cases e <;> simp [Rep] at r2 <;> exact fun _ => rfl
  | .bl b, e, n, v, f1, f2, o1, o2, r1, r2 => by
    obtain ⟨rfl, _⟩ := r1
    cases e <;> simp [Rep] at r2
    rw [r2.1]; exact fun _ => rfl
  | .int i, e, n, v, f1, f2, o1, o2, r1, r2 => by
    obtain ⟨rfl, _⟩ := r1
    cases e <;> simp [Rep] at r2
    rw [r2.1]; exact fun _ => rfl
  | .str i, e, n, v, f1, f2, o1, o2, r1, r2 => by
    obtain ⟨rfl, _⟩ := r1
    cases e <;> simp [Rep] at r2
    rw [r2.1]; exact fun _ => rfl
  | .ty i, e, n, v, f1, f2, o1, o2, r1, r2 => by simp [eqOk] at o1
  | .dct _ _ _, e, n, v, f1, f2, o1, o2, r1, r2 => by simp [eqOk] at o1
  | .obj _ _ _ _, e, n, v, f1, f2, o1, o2, r1, r2 => by simp [eqOk] at o1
  | .lst g ds, e, n, v, f1, f2, o1, o2, r1, r2 => by
    obtain ⟨a, vs, f, rfl, q, rs⟩ := rep_list hC hF r1
    cases n with
    | zero => simp [eqOk] at o1
    | succ n =>
      cases e with
      | lst g2 es =>
        obtain ⟨b, ws, f', e1, q2, rs2⟩ := rep_list hC hF r2
        cases e1
        rw [I.list_inj q2 q] at rs2
        have h := eqs_cong I hC hF ds es n vs f f' (by simpa [eqOk] using o1) (by simpa [eqOk] using o2) rs rs2
        intro x
        cases x <;> simp only [pyEq]
        exact h _
      | tup es =>
        obtain ⟨b, ws, e1, q2, rs2⟩ := rep_tup hC r2
        cases e1
        exact (ltu I q q2).elim
      | ty _ => simp [eqOk] at o2
      | dct _ _ _ => simp [eqOk] at o2
      | obj _ _ _ _ => simp [eqOk] at o2
      | _ => simp [Rep] at r2
  | .tup ds, e, n, v, f1, f2, o1, o2, r1, r2 => by
    obtain ⟨a, vs, rfl, q, rs⟩ := rep_tup hC r1
    cases n with
    | zero => simp [eqOk] at o1
    | succ n =>
      cases e with
      | tup es =>
        obtain ⟨b, ws, e1, q2, rs2⟩ := rep_tup hC r2
        cases e1
        rw [I.tuple_inj q2 q] at rs2
        have h := eqs_cong I hC hF ds es n vs f1 f2 (by simpa [eqOk] using o1) (by simpa [eqOk] using o2) rs rs2
        intro x
        cases x <;> simp only [pyEq]
        exact h _
      | lst g es =>
        obtain ⟨b, ws, f, e1, q2, rs2⟩ := rep_list hC hF r2
        cases e1
        exact (ltu I q2 q).elim
      | ty _ => simp [eqOk] at o2
      | dct _ _ _ => simp [eqOk] at o2
      | obj _ _ _ _ => simp [eqOk] at o2
      | _ => simp [Rep] at r2
theorem eqs_cong (I : Inv X pins σ H s) (hC : C.At X) (hF : Fr C H) : ∀ (ds es : List D) (n : Nat) (vs : List V) (f1 f2 : List Addr), eqOks n ds = true → eqOks n es = true → Reps C H ds vs f1 → Reps C H es vs f2 → ∀ xs, pyEqs ds xs = pyEqs es xs
  | [], es, n, vs, f1, f2, o1, o2, r1, r2 => by
    have := reps_length r1
    have h2 := reps_length r2
    cases es with
    | nil => exact fun _ => rfl
    | cons e es => simp at this h2; omega
  | d :: ds, [], n, vs, f1, f2, o1, o2, r1, r2 => by
    have := reps_length r1
    have h2 := reps_length r2
    simp at this h2; omega
  | d :: ds, e :: es, n, vs, f1, f2, o1, o2, ⟨v, vs', g1, g2, e1, r1, rs1, _⟩, ⟨w, ws', k1, k2, e2, r2, rs2, _⟩ => by
    rw [e1] at e2; cases e2
    simp only [eqOks, Bool.and_eq_true] at o1 o2
    intro xs
    cases xs with
    | nil => rfl
    | cons x xs => rw [pyEqs, pyEqs, eq_cong I hC hF d e n v g1 k1 o1.1 o2.1 r1 r2 x, eqs_cong I hC hF ds es n vs' g2 k2 o1.2 o2.2 rs1 rs2 xs]
end
theorem eqOks_get : ∀ {ds : List D} {n i : Nat} {d : D}, eqOks n ds = true → ds[i]? = some d → eqOk n d = true
  | [], n, i, d, _, h => by simp at h
  | d0 :: ds, n, 0, d, h, e => by simp at e; subst e; simp only [eqOks, Bool.and_eq_true] at h; exact h.1
  | d0 :: ds, n, i + 1, d, h, e => by simp only [eqOks, Bool.and_eq_true] at h; exact eqOks_get h.2 (by simpa using e)
theorem eqOk_mono : ∀ {n m : Nat}, n ≤ m → ∀ d, (eqOk n d = true → eqOk m d = true) := by
  intro n m h d
  exact (by
    have key : (∀ d : D, ∀ n m, n ≤ m → eqOk n d = true → eqOk m d = true) := by
      intro d
      exact D.rec (motive_1 := fun d => ∀ n m, n ≤ m → eqOk n d = true → eqOk m d = true) (motive_2 := fun ds => ∀ n m, n ≤ m → eqOks n ds = true → eqOks m ds = true)
        (fun _ _ _ _ => by simp [eqOk]) (fun _ _ _ _ _ => by simp [eqOk]) (fun _ _ _ _ _ => by simp [eqOk]) (fun _ _ _ _ _ => by simp [eqOk]) (fun _ n m _ h => by simp [eqOk] at h)
        (fun ds ih n m hnm h => by
          cases n with
          | zero => simp [eqOk] at h
          | succ n => cases m with
            | zero => omega
            | succ m => simp only [eqOk] at h ⊢; exact ih n m (by omega) h)
        (fun g ds ih n m hnm h => by
          cases n with
          | zero => simp [eqOk] at h
          | succ n => cases m with
            | zero => omega
            | succ m => simp only [eqOk] at h ⊢; exact ih n m (by omega) h)
        (fun _ _ _ _ n m _ h => by simp [eqOk] at h) (fun _ _ _ _ _ n m _ h => by simp [eqOk] at h)
        (fun _ _ _ _ => by simp [eqOks])
        (fun d ds h1 h2 n m hnm h => by
          simp only [eqOks, Bool.and_eq_true] at h ⊢
          exact ⟨h1 n m hnm h.1, h2 n m hnm h.2⟩) d
    exact key d n m h)
open Classical in
/-- the items' test as a function of the machine's values -/
noncomputable def inE (us : List Value) (ds : List D) (x : D) (y : Value) : Bool := decide (∃ (j : Nat) (d : D), us[j]? = some y ∧ ds[j]? = some d ∧ pyEq d x = true)
theorem vals_get' {vs : List V} {us : List Value} (r : Vals vs us) {j : Nat} {u : Value} (h : us[j]? = some u) : ∃ v, vs[j]? = some v ∧ RelV v u := by
  have hl := r.length
  have hj : j < vs.length := by rw [hl]; exact (List.getElem?_eq_some_iff.mp h).1
  obtain ⟨u', h1, h2⟩ := r.get (i := j) (x := vs[j]) (by simp [hj])
  rw [h] at h1; cases h1
  exact ⟨vs[j], by simp [hj], h2⟩
theorem inE_at (I : Inv X pins σ H s) (hC : C.At X) (hF : Fr C H) {ds : List D} {x : D} {vs : List V} {us : List Value} {w : V} {xu : Value} {f1 f2 : List Addr} {A : Around} (o1 : eqOks 40 ds = true) (o2 : eqOk 40 x = true) (rs : Reps C H ds vs f1) (rv : Vals vs us)
    (rx : Rep C H x w f2) (rw' : RelV w xu) (hu : A.units + 41 < cLine) : (∀ y ∈ us, EqAt A s y xu (inE us ds x y)) ∧ us.any (inE us ds x) = ds.any (fun d => pyEq d x) := by
  have hl := reps_vals rs rv
  have val : ∀ (j : Nat) (u : Value) (d : D), us[j]? = some u → ds[j]? = some d → inE us ds x u = pyEq d x := by
    intro j u d hj hd
    unfold inE
    obtain ⟨v, g1, f, g2, hv, r, _⟩ := reps_get rs hd
    obtain ⟨v2, hv2, rv2⟩ := vals_get' rv hj
    rw [hv] at hv2; cases hv2
    cases q : pyEq d x with
    | true =>
      classical
      exact decide_eq_true ⟨j, d, hj, hd, q⟩
    | false =>
      classical
      refine decide_eq_false ?_
      rintro ⟨j', d', hj', hd', q'⟩
      obtain ⟨v', _, f', _, hv', r', _⟩ := reps_get rs hd'
      obtain ⟨v3, hv3, rv3⟩ := vals_get' rv hj'
      rw [hv'] at hv3; cases hv3
      have : v' = v := rv3.inj rv2
      subst this
      rw [eq_cong I hC hF d' d 40 v' f' f (eqOks_get o1 hd') (eqOks_get o1 hd) r' r x] at q'
      rw [q] at q'; cases q'
  refine ⟨fun y hy => ?_, ?_⟩
  · obtain ⟨j, hj⟩ := List.mem_iff_getElem?.mp hy
    have hjl : j < ds.length := by rw [hl]; exact (List.getElem?_eq_some_iff.mp hj).1
    have hd : ds[j]? = some ds[j] := by simp [hjl]
    obtain ⟨v, g1, f, g2, hv, r, _⟩ := reps_get rs hd
    obtain ⟨v2, hv2, rv2⟩ := vals_get' rv hj
    rw [hv] at hv2; cases hv2
    rw [val j y _ hj hd]
    exact (rc_rep I hC hF ds[j] x 40 A v w f f2 y xu (eqOks_get o1 hd) o2 r rx rv2 rw' (by omega)).2
  · rw [Bool.eq_iff_iff, List.any_eq_true, List.any_eq_true]
    constructor
    · rintro ⟨y, hy, q⟩
      obtain ⟨j, hj⟩ := List.mem_iff_getElem?.mp hy
      have hjl : j < ds.length := by rw [hl]; exact (List.getElem?_eq_some_iff.mp hj).1
      have hd : ds[j]? = some ds[j] := by simp [hjl]
      exact ⟨ds[j], List.getElem_mem hjl, by rw [← val j y _ hj hd]; exact q⟩
    · rintro ⟨d, hd, q⟩
      obtain ⟨j, hj⟩ := List.mem_iff_getElem?.mp hd
      have hjl : j < us.length := by rw [← hl]; exact (List.getElem?_eq_some_iff.mp hj).1
      have hd' : us[j]? = some us[j] := by simp [hjl]
      exact ⟨us[j], List.getElem_mem hjl, by rw [val j _ d hd' hj]; exact q⟩
def inB : D → D → Option Bool
  | x, .lst _ ds => if eqOk 40 x && eqOks 40 ds then some (ds.any fun d => pyEq d x) else none
  | x, .tup ds => if eqOk 40 x && eqOks 40 ds then some (ds.any fun d => pyEq d x) else none
  | x, .dct _ ks ds => x.key.map fun k => (lookD ks ds k).isSome
  | .str i, .str j => some (!(Builtin.Str.occurrences j i 0 j.length 1).isEmpty)
  | _, _ => none
def pIn (x y : D) : Option D := (inB x y).map .bl
def pNotIn (x y : D) : Option D := (inB x y).map fun b => .bl (!b)
theorem od_inG {op : CmpOp} {neg : Bool} {kk : Nat} (hr : Room kk X.A)
    (hlist : ∀ {s : Shared} {l : Addr} {items : Array Value} {x : Value} {Q : Value → Shared → Prop} (e : Value → Bool), s.heap.IsList l items → (∀ y, y ∈ items → EqAt X.A.in1 s y x (e y)) → Q (.bool (if neg then !items.any e else items.any e)) s → wpAny (model X.prog X.w) X.A (compareOp op x (.ref l)) Q X.xe s)
    (htup : ∀ {s : Shared} {l : Addr} {items : Array Value} {x : Value} {Q : Value → Shared → Prop} (e : Value → Bool), s.heap.IsTuple l items → (∀ y, y ∈ items → EqAt X.A.in1 s y x (e y)) → Q (.bool (if neg then !items.any e else items.any e)) s → wpAny (model X.prog X.w) X.A (compareOp op x (.ref l)) Q X.xe s)
    (hdic : ∀ {pins s σ H a y u o} {Q : Value → Shared → Prop}, Inv X pins σ H s → DGet H a y o → RelV y u → (∀ s', Inv X pins σ H s' → Q (.bool (if neg then !o.isSome else o.isSome)) s') → wpAny (model X.prog X.w) X.A (compareOp op u (.ref a)) Q X.xe s)
    (hstr : OpR X (compareOp op) (fun x y H Q => ∃ i j, x = .str i ∧ y = .str j ∧ Q (.bl (if neg then !(!(Builtin.Str.occurrences j i 0 j.length 1).isEmpty) else !(Builtin.Str.occurrences j i 0 j.length 1).isEmpty)) H)) :
    OD2 X (compareOp op) (fun x y => (inB x y).map fun b => .bl (if neg then !b else b)) := by
  intro pins s σ H x y v u Q I rx ry ⟨C, dx, dy, fx, fy, d, hC, hF, r1, r2, e, kk⟩
  obtain ⟨b, hb, rfl⟩ := Option.map_eq_some_iff.mp e
  have q := kk.here (v := .bl (if neg then !b else b)) ⟨rfl, rfl⟩
  have hun := hr.units
  have hin1 : X.A.in1.units + 41 < cLine := by show X.A.units + 1 + 41 < cLine; omega
  cases dy with
  | lst g ds =>
    have hb' : (if eqOk 40 dx && eqOks 40 ds then some (ds.any fun d => pyEq d dx) else none) = some b := by cases dx <;> exact hb
    split at hb'
    · rename_i ho
      cases hb'
      have ho := Bool.and_eq_true_iff.mp ho
      obtain ⟨a, vs, f, rfl, qa, rs⟩ := rep_list hC hF r2
      cases (show u = Value.ref a from ry)
      obtain ⟨its, rv, pl, _⟩ := I.list qa
      obtain ⟨h1, h2⟩ := inE_at I hC hF (A := X.A.in1) ho.2 ho.1 rs rv r1 rx hin1
      refine hlist (inE its ds dx) pl.isList (fun y hy => h1 y (by simpa using hy)) ⟨.bl _, H, I, ?_, q⟩
      rw [List.any_toArray, h2]; rfl
    · cases hb'
  | tup ds =>
    have hb' : (if eqOk 40 dx && eqOks 40 ds then some (ds.any fun d => pyEq d dx) else none) = some b := by cases dx <;> exact hb
    split at hb'
    · rename_i ho
      cases hb'
      have ho := Bool.and_eq_true_iff.mp ho
      obtain ⟨a, vs, rfl, qa, rs⟩ := rep_tup hC r2
      cases (show u = Value.ref a from ry)
      obtain ⟨its, rv, pl, _⟩ := I.tuple qa
      obtain ⟨h1, h2⟩ := inE_at I hC hF (A := X.A.in1) ho.2 ho.1 rs rv r1 rx hin1
      refine htup (inE its ds dx) (show s.heap.IsTuple a its.toArray from pl) (fun y hy => h1 y (by simpa using hy)) ⟨.bl _, H, I, ?_, q⟩
      rw [List.any_toArray, h2]; rfl
    · cases hb'
  | dct g ks ds =>
    have hb' : (dx.key.map fun k => (lookD ks ds k).isSome) = some b := by cases dx <;> exact hb
    obtain ⟨ky, hk, rfl⟩ := Option.map_eq_some_iff.mp hb'
    obtain ⟨ad, kvs, g1, g2, rfl, hd', hks, rs, ef⟩ := rep_dct hF r2
    cases (show u = Value.ref ad from ry)
    have ex := key_of hk r1
    refine hdic I (.inl ⟨kvs, ky, hd', ex, rfl⟩) rx fun s' I' => ⟨.bl _, H, I', ?_, q⟩
    have : (valV kvs ky).isSome = (lookD ks ds ky).isSome := by
      rw [← hks]
      cases z : lookD (kvs.map (·.1)) ds ky with
      | none => rw [look_none rs z]; rfl
      | some w => obtain ⟨v', _, _, _, h1, _⟩ := look_rep rs z; rw [h1]; rfl
    rw [this]; rfl
  | str j =>
    cases dx with
    | str i =>
      obtain ⟨rfl, _⟩ := r1
      obtain ⟨rfl, _⟩ := r2
      simp only [inB] at hb
      cases hb
      exact hstr pins s σ H _ _ v u Q I rx ry ⟨i, j, rfl, rfl, q⟩
    | _ => simp [inB] at hb
  | _ => cases dx <;> simp [inB] at hb
theorem od_in {kk : Nat} (hr : Room kk X.A) : OD2 X (compareOp .In) pIn :=
  od_inG (neg := false) hr (fun e h1 h2 q => in_listAt e h1 h2 (by simpa using q)) (fun e h1 h2 q => in_tupleAt e h1 h2 (by simpa using q)) (fun I g r h => d_in (by have := hr.units; omega) I g r (by simpa using h)) (by simpa using op_in_str)
theorem od_notin {kk : Nat} (hr : Room kk X.A) : OD2 X (compareOp .NotIn) pNotIn :=
  od_inG (neg := true) hr (fun e h1 h2 q => notIn_listAt e h1 h2 (by simpa using q)) (fun e h1 h2 q => notIn_tupleAt e h1 h2 (by simpa using q)) (fun I g r h => d_notIn (by have := hr.units; omega) I g r (by simpa using h)) (by simpa using op_notin_str)
end
end VS

set_option maxRecDepth 100000
namespace VS
open PySem L2 SeqAt
section
variable {X : Cx} {W : WX} {M M1 M2 M3 Rs R1 R2 R3 : List Nat} {e a b c : Expr} {es : List Expr} {ca cb cc : CE} {cs : CA} {pos p : Pos}
variable {pins : List (Addr × Obj)} {σ : St} {H : Hp} {s : Shared} {C : Ctx}

/-! ### calls of what Python has -/
def cL (p : List D → Option D) (cs : CA) : CE := fun env => (cs env).bind fun ds env => R.of (p ds) env
theorem comes_postA {fs fs1 : FPs} {env env1 : Env} {H H1 : Hp} {tf own : List Addr} {d : D} {Q : VK} (G1 : Good C fs1 env1 σ H1 (own ++ tf)) (s1 : Step M tf fs env H fs1 env1 H1)
    (po : PostO W C M tf fs env σ H Q (.ok d env1)) : Comes C H1 d Q := comes_post G1 s1 po
theorem cL_go {p : List D → Option D} (ha : SA X W M Rs es cs) : ∃ t, PA X es t ∧ ∀ C fs env σ H tf Q, C.At X → Good C fs env σ H tf → PostO W C M tf fs env σ H Q (cL p cs env) → tCB (rDL X p) t σ H Q := by
  obtain ⟨t, pa, q⟩ := ha.go
  refine ⟨t, pa, fun C fs env σ H tf Q hC G po => ?_⟩
  show t σ H fun vs H1 => rDL X p vs H1 Q
  refine q C fs env σ H tf _ hC G ?_
  unfold cL at po
  cases e1 : cs env with
  | err => rw [e1] at po; exact po
  | ex x env' => rw [e1] at po; exact po
  | ok ds env' =>
    rw [e1] at po
    intro vs fs' H' fp own G' s r i
    have po' : PostO W C M tf fs env σ H Q (R.of (p ds) env') := po
    cases e2 : p ds with
    | none => rw [e2] at po'; exact po'.elim
    | some z =>
      rw [e2] at po'
      exact ⟨C, ds, fp, z, hC, G'.fr, r, e2, comes_post G' s po'⟩
theorem so_callB {id : String} {x : Str} {pf : Pos} {pr : List D → Option D} (hc : ODL X (.builtin id) pr) (hg : Gl X x) (hm : X.mg x = none) (hv : bootBuiltins x = some (.builtin id)) (ha : SA X W M Rs (e :: es) cs) (hn : x ≠ "__name__" := by decide) (hdb : (x == ("__debug__" : Str)) = false := by decide)
    (he : starEach (e :: es) X.env = (false, eval e X.env) :: starEach es X.env := by rfl) (hpl : (backTo pos (starEach es X.env)).any (·.1) = false := by rfl) : SO X W M (.Call (.Name x pf) (e :: es) [] pos) (cL pr cs) := by
  obtain ⟨t, pa, q⟩ := cL_go (p := pr) ha
  exact ⟨_, pe_callB hc hg hm hv pa hn hdb he hpl, q⟩
theorem so_callTy {T : String} {x : Str} {pf : Pos} {pr : List D → Option D} (hc : ODL X (.type T) pr) (hg : Gl X x) (hm : X.mg x = none) (hv : bootBuiltins x = some (.type T)) (ha : SA X W M Rs (e :: es) cs) (hn : x ≠ "__name__" := by decide) (hdb : (x == ("__debug__" : Str)) = false := by decide)
    (he : starEach (e :: es) X.env = (false, eval e X.env) :: starEach es X.env := by rfl) (hpl : (backTo pos (starEach es X.env)).any (·.1) = false := by rfl) : SO X W M (.Call (.Name x pf) (e :: es) [] pos) (cL pr cs) := by
  obtain ⟨t, pa, q⟩ := cL_go (p := pr) ha
  exact ⟨_, pe_callTy hc hg hm hv pa hn hdb he hpl, q⟩
/-- a built-in type's name as a value -/
theorem so_ty {T : String} {x : Str} (hg : Gl X x) (hm : X.mg x = none) (hv : bootBuiltins x = some (.type T)) (hn : x ≠ "__name__" := by decide) (hd : (x == ("__debug__" : Str)) = false := by decide) : SO X W [] (.Name x pos) (cK (.ty T)) :=
  so_k (v := .ty T) (pe_bltn hg hm hv (show RelV (.ty T) (.type T) from rfl) hn hd) (fun _ _ _ h => h) fun _ _ => ⟨rfl, rfl⟩

theorem reps1 {d : D} {vs : List V} {fp} (r : Reps C H [d] vs fp) : ∃ v, vs = [v] ∧ Rep C H d v fp := by
  obtain ⟨v, vs', f1, f2, rfl, r1, ⟨rfl, rfl⟩, rfl⟩ := r
  exact ⟨v, rfl, by simpa using r1⟩
theorem reps2 {d e : D} {vs : List V} {fp} (r : Reps C H [d, e] vs fp) : ∃ v w f1 f2, vs = [v, w] ∧ Rep C H d v f1 ∧ Rep C H e w f2 ∧ fp = f1 ++ f2 := by
  obtain ⟨v, vs', f1, f2, rfl, r1, r2, rfl⟩ := r
  obtain ⟨w, rfl, r3⟩ := reps1 r2
  exact ⟨v, w, f1, f2, rfl, r1, r3, rfl⟩
def pLen : List D → Option D
  | [.lst _ ds] => some (.int ds.length)
  | [.tup ds] => some (.int ds.length)
  | [.dct _ ks _] => some (.int ks.length)
  | [.str s] => if s.length ≤ sizeLine then some (.int s.length) else none
  | _ => none
theorem od_len : ODL X (.builtin "len") pLen := by
  intro pins s σ H xs us Q I rv ⟨C, ds, fx, d, hC, hF, rs, e, k⟩
  unfold pLen at e
  split at e
  · rename_i g zs
    obtain ⟨v, rfl, r⟩ := reps1 rs
    obtain ⟨a, vs, f, rfl, q, rz⟩ := rep_list hC hF r
    cases e
    refine call_len_seq pins s σ H _ us Q I rv ⟨a, vs, rfl, .inl q, ?_⟩
    rw [← reps_length rz]
    exact k.here ⟨rfl, rfl⟩
  · rename_i zs
    obtain ⟨v, rfl, r⟩ := reps1 rs
    obtain ⟨a, vs, rfl, q, rz⟩ := rep_tup hC r
    cases e
    refine call_len_seq pins s σ H _ us Q I rv ⟨a, vs, rfl, .inr q, ?_⟩
    rw [← reps_length rz]
    exact k.here ⟨rfl, rfl⟩
  · rename_i g ks zs
    obtain ⟨v, rfl, r⟩ := reps1 rs
    obtain ⟨ad, kvs, g1, g2, rfl, hd, hk, rz, _⟩ := rep_dct hF r
    cases e
    obtain ⟨u, rfl, ru⟩ := vals1 rv
    cases (show u = Value.ref ad from ru)
    refine d_len I hd fun t s' I' => ⟨.int kvs.length, H, I', ⟨t, rfl⟩, ?_⟩
    have : kvs.length = ks.length := by rw [← hk]; simp
    rw [this]; exact k.here ⟨rfl, rfl⟩
  · rename_i z
    obtain ⟨v, rfl, r⟩ := reps1 rs
    obtain ⟨rfl, _⟩ := r
    split at e
    · rename_i hz
      cases e
      exact call_len pins s σ H _ us Q I rv ⟨.str z, z.length, rfl, ⟨hz, rfl⟩, k.here ⟨rfl, rfl⟩⟩
    · cases e
  · cases e
def pAbs : List D → Option D
  | [.int i] => some (.int (if i < 0 then -i else i))
  | _ => none
theorem od_abs : ODL X (.builtin "abs") pAbs := by
  refine ODL.of call_abs fun xs H Q ⟨C, ds, fx, d, hC, hF, rs, e, k⟩ => ?_
  unfold pAbs at e
  split at e
  · rename_i i
    obtain ⟨v, rfl, r⟩ := reps1 rs
    obtain ⟨rfl, _⟩ := r
    cases e
    exact ⟨i, rfl, k.here ⟨rfl, rfl⟩⟩
  · cases e
def pMin2 : List D → Option D
  | [.int i, .int j] => some (.int (if j < i then j else i))
  | _ => none
def pMax2 : List D → Option D
  | [.int i, .int j] => some (.int (if i < j then j else i))
  | _ => none
theorem od_min2 (hc : X.calm = true) : ODL X (.builtin "min") pMin2 := by
  refine ODL.of (call_min2 hc) fun xs H Q ⟨C, ds, fx, d, hC, hF, rs, e, k⟩ => ?_
  unfold pMin2 at e
  split at e
  · rename_i i j
    obtain ⟨v, w, f1, f2, rfl, r, r', _⟩ := reps2 rs
    obtain ⟨rfl, _⟩ := r
    obtain ⟨rfl, _⟩ := r'
    cases e
    exact ⟨i, j, rfl, k.here ⟨rfl, rfl⟩⟩
  · cases e
theorem od_max2 (hc : X.calm = true) : ODL X (.builtin "max") pMax2 := by
  refine ODL.of (call_max2 hc) fun xs H Q ⟨C, ds, fx, d, hC, hF, rs, e, k⟩ => ?_
  unfold pMax2 at e
  split at e
  · rename_i i j
    obtain ⟨v, w, f1, f2, rfl, r, r', _⟩ := reps2 rs
    obtain ⟨rfl, _⟩ := r
    obtain ⟨rfl, _⟩ := r'
    cases e
    exact ⟨i, j, rfl, k.here ⟨rfl, rfl⟩⟩
  · cases e
def pInt1 : List D → Option D
  | [.int i] => some (.int i)
  | [.bl b] => some (.int (if b then 1 else 0))
  | _ => none
theorem od_int1 : ODL X (.type "int") pInt1 := by
  refine ODL.of call_int1 fun xs H Q ⟨C, ds, fx, d, hC, hF, rs, e, k⟩ => ?_
  unfold pInt1 at e
  split at e
  · rename_i i
    obtain ⟨v, rfl, r⟩ := reps1 rs
    obtain ⟨rfl, _⟩ := r
    cases e
    exact .inl ⟨i, rfl, k.here ⟨rfl, rfl⟩⟩
  · rename_i i
    obtain ⟨v, rfl, r⟩ := reps1 rs
    obtain ⟨rfl, _⟩ := r
    cases e
    exact .inr ⟨i, rfl, k.here ⟨rfl, rfl⟩⟩
  · cases e

/-! ### isinstance -/
def D.tyn : D → Option String
  | .non => some "NoneType"
  | .bl _ => some "bool"
  | .int _ => some "int"
  | .str _ => some "str"
  | .tup _ => some "tuple"
  | .lst _ _ => some "list"
  | .dct _ _ _ => some "dict"
  | _ => none
def isiB (a b : String) : Bool := a == b || (a == "bool" && b == "int")
def tyNames : List String := ["NoneType", "bool", "int", "str", "tuple", "list", "dict"]
def clNames : List String := ["bool", "int", "str", "tuple", "list", "dict"]
theorem kit_tab : (tyNames.all fun a => clNames.all fun b => kitB a b == some (isiB a b)) = true := by decide +kernel
theorem kit_isi {K : PySem.W.Frag} {a b : String} (ha : a ∈ tyNames) (hb : b ∈ clNames) : PySem.W.kitOne K (.type a) (.type b) = some (isiB a b) :=
  kit_ty (eq_of_beq (List.all_eq_true.mp (List.all_eq_true.mp kit_tab a ha) b hb))
theorem tyn_mem {d : D} {t : String} (h : d.tyn = some t) : t ∈ tyNames := by
  cases d <;> simp [D.tyn] at h <;> subst h <;> decide
def tyNm : D → Option String
  | .ty n => if clNames.contains n then some n else none
  | _ => none
def tyNms : List D → Option (List String)
  | [] => some []
  | d :: ds => (tyNm d).bind fun n => (tyNms ds).map fun ns => n :: ns
def pIsi : List D → Option D
  | [d, .ty n] => d.tyn.bind fun t => (tyNm (.ty n)).map fun n => .bl (isiB t n)
  | [d, .tup cs] => d.tyn.bind fun t => (tyNms cs).map fun ns => .bl (ns.any fun n => isiB t n)
  | _ => none
theorem tyx_of {d : D} {t : String} {v : V} {fp} (hC : C.At X) (hF : Fr C H) (h : d.tyn = some t) (r : Rep C H d v fp) : TyX X.K H v (.type t) := by
  cases d with
  | non => cases h; obtain ⟨rfl, _⟩ := r; exact .base .non
  | bl b => cases h; obtain ⟨rfl, _⟩ := r; exact .base (.bl b)
  | int b => cases h; obtain ⟨rfl, _⟩ := r; exact .base (.int b)
  | str b => cases h; obtain ⟨rfl, _⟩ := r; exact .base (.str b)
  | tup ds =>
    cases h
    obtain ⟨a, vs, rfl, q, _⟩ := rep_tup hC r
    rcases q with (q | ⟨o, q⟩) | ⟨o, its, n, hk, hc, _⟩
    · exact .base (.tup q)
    · exact .fTuple q
    · exact .kTuple hk hc
  | lst g ds =>
    cases h
    obtain ⟨a, vs, f, rfl, q, _⟩ := rep_list hC hF r
    rcases q with (q | ⟨o, q⟩) | ⟨o, its, n, hk, hc, _⟩
    · exact .base (.lst q)
    · exact .base (.frz q)
    · exact .kList hk hc
  | dct g ks ds =>
    cases h
    obtain ⟨ad, kvs, g1, g2, rfl, hd, hk, rz, _⟩ := rep_dct hF r
    rcases hd with q | ⟨o, q⟩
    · exact .base (.dK q)
    · exact .fDict q
  | ty _ => cases h
  | obj _ _ _ _ => cases h
theorem tyNm_inv {d : D} {n : String} (h : tyNm d = some n) : d = .ty n ∧ n ∈ clNames := by
  cases d <;> simp [tyNm] at h
  obtain ⟨h1, rfl⟩ := h
  exact ⟨rfl, by simpa using h1⟩
theorem tyNms_inv {C : Ctx} {H : Hp} : ∀ {cs : List D} {ns : List String} {vs : List V} {fp}, tyNms cs = some ns → Reps C H cs vs fp → ∃ us : List Value, us = ns.map Value.type ∧ Paired ClsV vs us ∧ ∀ n ∈ ns, n ∈ clNames
  | [], ns, vs, fp, h, ⟨e, _⟩ => by subst e; cases h; exact ⟨[], rfl, .nil, fun _ z => nomatch z⟩
  | d :: ds, ns, vs, fp, h, ⟨v, vs', f1, f2, e, r, rs, _⟩ => by
    simp only [tyNms] at h
    obtain ⟨n, hn, h⟩ := Option.bind_eq_some_iff.mp h
    obtain ⟨ns', hns, rfl⟩ := Option.map_eq_some_iff.mp h
    obtain ⟨rfl, hm⟩ := tyNm_inv hn
    obtain ⟨rfl, _⟩ := r
    subst e
    obtain ⟨us, rfl, hp, hall⟩ := tyNms_inv hns rs
    refine ⟨_, rfl, .cons (.ty n) hp, fun m hm' => ?_⟩
    rcases List.mem_cons.mp hm' with rfl | z
    · exact hm
    · exact hall m z
theorem kitAny_isi {K : PySem.W.Frag} {a : String} (ha : a ∈ tyNames) : ∀ {ns : List String}, (∀ n ∈ ns, n ∈ clNames) → PySem.W.kitAny K (.type a) (ns.map Value.type) = some (ns.any fun n => isiB a n)
  | [], _ => rfl
  | n :: ns, h => by
    show PySem.W.kitAny K (.type a) (Value.type n :: ns.map Value.type) = _
    unfold PySem.W.kitAny
    rw [kit_isi ha (h n (by simp))]
    cases q : isiB a n with
    | true => simp [q]
    | false => simp [q]; exact kitAny_isi ha fun m hm => h m (by simp [hm])
theorem call_isiT' : CallR X (.builtin "isinstance") (fun xs H Q => ∃ (x : V) (tp : Addr) (cs : List V) (t : Value) (us : List Value) (b : Bool), xs = [x, .ref tp] ∧ SqT X.K H tp cs ∧ Paired ClsV cs us ∧ TyX X.K H x t ∧ PySem.W.kitAny X.K t us = some b ∧ Q (.bl b) H) := by
  intro pins s σ H xs us Q I r h
  obtain ⟨x, tp, cs, t, ws, b, rfl, hT, k, ty, e, q⟩ := h
  obtain ⟨u1, u2, rfl, r1, r2⟩ := vals2 r
  cases (show u2 = Value.ref tp from r2)
  obtain ⟨P, Z, p, hx⟩ := kit_of I r1 ty
  obtain ⟨its, rv, ⟨o, h1, h2, n, h3⟩, _⟩ := I.tuple hT
  have e3 := ClsV.all k rv
  subst e3
  obtain ⟨oc, od, dt, sl⟩ := o
  simp only at h2 h3
  subst h2 h3
  exact PySem.W.kia_tup Z I.kIn p h1 e hx fun tk => ⟨.bl b, H, I.tok tk, rfl, q⟩
theorem od_isi : ODL X (.builtin "isinstance") pIsi := by
  intro pins s σ H xs us Q I rv ⟨C, ds, fx, d, hC, hF, rs, e, k⟩
  unfold pIsi at e
  split at e
  · rename_i d0 n
    obtain ⟨v, w, f1, f2, rfl, r, r', _⟩ := reps2 rs
    obtain ⟨rfl, _⟩ := r'
    obtain ⟨t, ht, e⟩ := Option.bind_eq_some_iff.mp e
    obtain ⟨m, hm, rfl⟩ := Option.map_eq_some_iff.mp e
    obtain ⟨h1, h2⟩ := tyNm_inv hm
    cases h1
    exact call_isi pins s σ H _ us Q I rv ⟨v, .ty n, .type t, .type n, isiB t n, rfl, .ty n, tyx_of hC hF ht r, kit_isi (tyn_mem ht) h2, k.here ⟨rfl, rfl⟩⟩
  · rename_i d0 cs
    obtain ⟨v, w, f1, f2, rfl, r, r', _⟩ := reps2 rs
    obtain ⟨a, vs, rfl, q, rz⟩ := rep_tup hC r'
    obtain ⟨t, ht, e⟩ := Option.bind_eq_some_iff.mp e
    obtain ⟨ns, hns, rfl⟩ := Option.map_eq_some_iff.mp e
    obtain ⟨us', e1, hp, hall⟩ := tyNms_inv hns rz
    subst e1
    exact call_isiT' pins s σ H _ us Q I rv ⟨v, a, vs, .type t, _, ns.any fun n => isiB t n, rfl, q, hp, tyx_of hC hF ht r, kitAny_isi (tyn_mem ht) hall, k.here ⟨rfl, rfl⟩⟩
  · cases e

/-! ### displays -/
def PostAO (W : WX) (C : Ctx) (M : List Nat) (tf : List Addr) (fs : FPs) (env : Env) (σ : St) (H : Hp) (Q : List V → Hp → Prop) : R (List D) → Prop
  | .ok ds env' => ∀ vs fs' H' fp, Good C fs' env' σ H' (fp ++ tf) → Step M tf fs env H fs' env' H' → Reps C H' ds vs fp → Q vs H'
  | .ex x env' => ∀ cv dd fs' H', Good C fs' env' σ H' tf → Step M tf fs env H fs' env' H' → ExIs C x cv dd H' → W cv dd σ H'
  | .err => False
/-- arguments that are all owned -/
structure SAO (X : Cx) (W : WX) (M : List Nat) (es : List Expr) (c : CA) : Prop where
  go : ∃ t, PA X es t ∧ ∀ C fs env σ H tf Q, C.At X → Good C fs env σ H tf → PostAO W C M tf fs env σ H Q (c env) → t σ H Q
theorem sao_nil : SAO X W [] [] cNil := by
  refine ⟨tNil, pa_nil, fun C fs env σ H tf Q hC G po => ?_⟩
  exact po [] fs H [] (by simpa using G) .refl ⟨rfl, rfl⟩
theorem Good.swap {fs : FPs} {env : Env} {tf f1 f2 : List Addr} (G : Good C fs env σ H (f2 ++ (f1 ++ tf))) : Good C fs env σ H ((f1 ++ f2) ++ tf) := by
  have p : (fs.flatten ++ ((f1 ++ f2) ++ tf)).Perm (fs.flatten ++ (f2 ++ (f1 ++ tf))) := by
    refine List.Perm.append_left _ ?_
    rw [← List.append_assoc]
    exact List.perm_append_comm.append_right _
  exact ⟨G.le, G.lf, G.rep, p.nodup_iff.mpr G.nd, fun a ha => G.own a (p.mem_iff.mp ha), fun a ha => G.trk a (p.mem_iff.mp ha), G.fr, G.lk⟩
theorem sao_cons (ha : SO X W M1 a ca) (hr : SAO X W M2 es cs) (hs : starEach (a :: es) X.env = (false, eval a X.env) :: starEach es X.env := by rfl) : SAO X W (M1 ++ M2) (a :: es) (cCons ca cs) := by
  obtain ⟨t, p, q⟩ := ha.go
  obtain ⟨t2, p2, q2⟩ := hr.go
  refine ⟨tCons t t2, pa_cons p p2 hs, fun C fs env σ H tf Q hC G po => ?_⟩
  refine q C fs env σ H tf _ hC G ?_
  unfold cCons at po
  cases e1 : ca env with
  | err => rw [e1] at po; exact po
  | ex x env' =>
    rw [e1] at po
    exact fun cv dd fs' H' G' s => po cv dd fs' H' G' (s.weak (fun i hi => List.mem_append_left _ hi) fun _ z => z)
  | ok d env1 =>
    rw [e1] at po
    intro v fs1 H1 fp1 G1 s1 r1
    refine q2 C fs1 env1 σ H1 (fp1 ++ tf) _ hC G1 ?_
    have po' : PostAO W C (M1 ++ M2) tf fs env σ H Q ((cs env1).bind fun ds env => .ok (d :: ds) env) := po
    cases e2 : cs env1 with
    | err => rw [e2] at po'; exact po'
    | ex x env' =>
      rw [e2] at po'
      exact fun cv dd fs' H' G' s => po' cv dd fs' H' G'.drop (s1.trans (s.weak (fun _ z => z) fun x hx => List.mem_append_right _ hx))
    | ok ds env2 =>
      rw [e2] at po'
      intro vs fs2 H2 fp2 G2 s2 r2
      have po2 : ∀ vs fs' H' fp, Good C fs' env2 σ H' (fp ++ tf) → Step (M1 ++ M2) tf fs env H fs' env2 H' → Reps C H' (d :: ds) vs fp → Q vs H' := po'
      exact po2 (v :: vs) fs2 H2 (fp1 ++ fp2) G2.swap (s1.trans (s2.weak (fun _ z => z) fun x hx => List.mem_append_right _ hx)) ⟨v, vs, fp1, fp2, rfl, r1.keep (fun x hx => s2.t x (List.mem_append_left _ hx)) s2.m, r2, rfl⟩
def cTup (cs : CA) : CE := fun env => (cs env).bind fun ds env => if ds.length ≤ sizeLine then .ok (.tup ds) env else .err
def cLst (cs : CA) : CE := fun env => (cs env).bind fun ds env => if ds.length ≤ sizeLine then .ok (.lst .m ds) env else .err
theorem Good.new {fs : FPs} {env : Env} {tf : List Addr} {q : Addr} {o : HO} (G : Good C fs env σ H tf) (hq : H q = none) (mu : Mutb o) : Good C fs env σ (upd H q o) (q :: tf) :=
  G.grow (fp := [q]) (Le.new hq) (by simp) (fun a ha => by simp at ha; subst ha; exact hq) fun a ha => by simp at ha; subst ha; exact ⟨o, upd_same, mu⟩
theorem so_tup {kk} (h : SAO X W M es cs) : SO X W M (.Tuple es kk pos) (cTup cs) := by
  obtain ⟨t, p, q⟩ := h.go
  refine ⟨tTup t, pe_tup p, fun C fs env σ H tf Q hC G po => q C fs env σ H tf _ hC G ?_⟩
  unfold cTup at po
  cases e1 : cs env with
  | err => rw [e1] at po; exact po
  | ex x env' => rw [e1] at po; exact po
  | ok ds env' =>
    rw [e1] at po
    intro vs fs' H' fp G' s r
    have po' : PostO W C M tf fs env σ H Q (if ds.length ≤ sizeLine then .ok (.tup ds) env' else .err) := po
    by_cases hz : ds.length ≤ sizeLine
    · rw [if_pos hz] at po'
      refine ⟨by rw [← reps_length r]; exact hz, fun q hq => ?_⟩
      have le := Le.new (o := .tup vs) hq
      refine po' (.ref q) fs' _ fp (G'.le' le) ?_ ⟨q, vs, rfl, SqT.of upd_same, r.le le⟩
      have := s.trans (Step.grow (M := []) G'.drop le)
      simpa using this
    · rw [if_neg hz] at po'; exact po'.elim
theorem so_lst (h : SAO X W M es cs) : SO X W M (.List es pos) (cLst cs) := by
  obtain ⟨t, p, q⟩ := h.go
  refine ⟨tLst t, pe_lst p, fun C fs env σ H tf Q hC G po => q C fs env σ H tf _ hC G ?_⟩
  unfold cLst at po
  cases e1 : cs env with
  | err => rw [e1] at po; exact po
  | ex x env' => rw [e1] at po; exact po
  | ok ds env' =>
    rw [e1] at po
    intro vs fs' H' fp G' s r
    have po' : PostO W C M tf fs env σ H Q (if ds.length ≤ sizeLine then .ok (.lst .m ds) env' else .err) := po
    by_cases hz : ds.length ≤ sizeLine
    · rw [if_pos hz] at po'
      refine ⟨by rw [← reps_length r]; exact hz, fun q hq => ?_⟩
      have le := Le.new (o := .lst vs) hq
      refine po' (.ref q) fs' _ (q :: fp) (G'.new hq trivial) ?_ ⟨q, vs, [q], fp, rfl, ⟨upd_same, rfl⟩, r.le le, .inl rfl, rfl⟩
      have := s.trans (Step.grow (M := []) G'.drop le)
      simpa using this
    · rw [if_neg hz] at po'; exact po'.elim
end
end VS

set_option maxRecDepth 100000
namespace VS
open PySem L2 SeqAt

inductive O where
  | nx (e : Env)
  | rt (d : D) (e : Env)
  | bk (e : Env)
  | ct (e : Env)
  | ex (x : Exn) (e : Env)
  | err
abbrev CS := Env → O

structure StepS (M Vs : List Nat) (tf : List Addr) (fs : FPs) (env : Env) (σ : St) (H : Hp) (fs' : FPs) (env' : Env) (σ' : St) (H' : Hp) : Prop where
  s : Step M tf fs env H fs' env' H'
  v : ∀ i, i ∉ Vs → σ'[i]? = σ[i]?
theorem StepS.refl {M Vs tf fs env σ H} : StepS M Vs tf fs env σ H fs env σ H := ⟨.refl, fun _ _ => rfl⟩
theorem StepS.trans {M1 M2 V1 V2 tf fs env σ H fs1 env1 σ1 H1 fs2 env2 σ2 H2} (a : StepS M1 V1 tf fs env σ H fs1 env1 σ1 H1) (b : StepS M2 V2 tf fs1 env1 σ1 H1 fs2 env2 σ2 H2) : StepS (M1 ++ M2) (V1 ++ V2) tf fs env σ H fs2 env2 σ2 H2 :=
  ⟨a.s.trans b.s, fun i hi => by
    rw [List.mem_append, not_or] at hi
    exact (b.v i hi.2).trans (a.v i hi.1)⟩
theorem StepS.weak {M M' Vs Vs' tf tf' fs env σ H fs1 env1 σ1 H1} (a : StepS M Vs tf fs env σ H fs1 env1 σ1 H1) (h : ∀ i ∈ M, i ∈ M') (hv : ∀ i ∈ Vs, i ∈ Vs') (ht : ∀ x ∈ tf', x ∈ tf) : StepS M' Vs' tf' fs env σ H fs1 env1 σ1 H1 :=
  ⟨a.s.weak h ht, fun i hi => a.v i fun z => hi (hv i z)⟩
theorem Step.ss {M tf fs env H fs' env' H'} {σ : St} (a : Step M tf fs env H fs' env' H') : StepS M [] tf fs env σ H fs' env' σ H' := ⟨a, fun _ _ => rfl⟩

section
variable (W : WX) (C : Ctx)
def PostS (M Vs : List Nat) (tf : List Addr) (fs : FPs) (env : Env) (σ : St) (H : Hp) (E : Ends) : O → Prop
  | .nx env' => ∀ fs' σ' H', Good C fs' env' σ' H' tf → StepS M Vs tf fs env σ H fs' env' σ' H' → E.nx σ' H'
  | .rt d env' => ∀ v fs' σ' H' fp, Good C fs' env' σ' H' (fp ++ tf) → StepS M Vs tf fs env σ H fs' env' σ' H' → Rep C H' d v fp → E.rt v H'
  | .bk env' => ∀ fs' σ' H', Good C fs' env' σ' H' tf → StepS M Vs tf fs env σ H fs' env' σ' H' → E.bk σ' H'
  | .ct env' => ∀ fs' σ' H', Good C fs' env' σ' H' tf → StepS M Vs tf fs env σ H fs' env' σ' H' → E.ct σ' H'
  | .ex x env' => ∀ cv dd fs' σ' H', Good C fs' env' σ' H' tf → StepS M Vs tf fs env σ H fs' env' σ' H' → ExIs C x cv dd H' → W cv dd σ' H'
  | .err => False
def PostG (M Vs : List Nat) (tf : List Addr) (fs : FPs) (env : Env) (σ : St) (H : Hp) (Q : St → Hp → Prop) : Option Env → Prop
  | some env' => ∀ fs' σ' H', Good C fs' env' σ' H' tf → StepS M Vs tf fs env σ H fs' env' σ' H' → Q σ' H'
  | none => False
end
structure SS (X : Cx) (W : WX) (M Vs : List Nat) (st : Stmt) (c : CS) : Prop where
  go : ∃ t, PS X st t ∧ ∀ C fs env σ H tf E, C.At X → Good C fs env σ H tf → PostS W C M Vs tf fs env σ H E (c env) → t E σ H
structure SSs (X : Cx) (W : WX) (M Vs : List Nat) (sts : List Stmt) (c : CS) : Prop where
  go : ∃ t, PSs X sts t ∧ ∀ C fs env σ H tf E, C.At X → Good C fs env σ H tf → PostS W C M Vs tf fs env σ H E (c env) → t E σ H
/-- a target: it takes an owned value -/
structure SG (X : Cx) (M Vs : List Nat) (tg : Expr) (g : D → Env → Option Env) : Prop where
  go : ∃ t, PG X tg t ∧ ∀ C fs env σ H tf Q d v fp, C.At X → Good C fs env σ H (fp ++ tf) → Rep C H d v fp → PostG C M Vs tf fs env σ H Q (g d env) → t v σ H Q
structure SGs (X : Cx) (M Vs : List Nat) (tgs : List Expr) (g : List D → Env → Option Env) : Prop where
  go : ∃ t, PGs X tgs t ∧ ∀ C fs env σ H tf Q ds vs fp, C.At X → Good C fs env σ H (fp ++ tf) → Reps C H ds vs fp → PostG C M Vs tf fs env σ H Q (g ds env) → t vs σ H Q

section
variable {C : Ctx} {H H' : Hp} {fs fs' : FPs} {env env' : Env} {σ σ' : St} {tf fp own : List Addr} {M Rs : List Nat}
/-- an owned value goes into a slot -/
theorem Good.put {i : Nat} {d : D} {v : V} (G : Good C fs env σ H (fp ++ tf)) (r : Rep C H d v fp) : Good C (fs.set i fp) (env.set i (some d)) (σ.set i (some v)) H tf := by
  by_cases hi : i < σ.length
  case neg =>
    have h1 := G.le
    have h2 := G.lf
    rw [List.set_eq_of_length_le (by omega), List.set_eq_of_length_le (by omega), List.set_eq_of_length_le (by omega)]
    exact G.drop
  have hl : i < fs.length := by rw [G.lf]; exact hi
  have p1 := flat_set fs hl fp
  have p2 := flat_get fs hl
  have sub : ∀ a ∈ (fs.set i fp).flatten ++ tf, a ∈ fs.flatten ++ (fp ++ tf) := fun a ha => by
    rcases List.mem_append.mp ha with z | z
    · rcases List.mem_append.mp (p1.mem_iff.mp z) with z | z
      · simp [z]
      · have := p2.mem_iff.mpr (List.mem_append_right _ z)
        simp [this]
    · simp [z]
  refine ⟨by simpa using G.le, by simpa using G.lf, fun j d' e => ?_, ?_, fun a ha => G.own a (sub a ha), fun a ha => G.trk a (sub a ha), G.fr, G.lk⟩
  · rw [List.getElem?_set] at e
    by_cases hj : i = j
    · subst hj
      have hle : i < env.length := by rw [G.le]; exact hi
      simp [hle] at e; subst e
      refine ⟨v, by simp [hi], ?_⟩
      rw [getD_set fs i i fp hl, if_pos rfl]; exact r
    · rw [if_neg hj] at e
      obtain ⟨w, e1, r1⟩ := G.rep j d' e
      refine ⟨w, by rw [List.getElem?_set_ne hj]; exact e1, ?_⟩
      rw [getD_set fs i j fp hl, if_neg (Ne.symm hj)]; exact r1
  · have nd := G.nd
    have q : (fs.flatten ++ (fp ++ tf)).Perm (fs.getD i [] ++ ((fp ++ (fs.set i []).flatten) ++ tf)) := by
      refine (p2.append_right _).trans ?_
      rw [List.append_assoc]
      refine List.Perm.append_left _ ?_
      rw [← List.append_assoc]
      exact List.perm_append_comm.append_right _
    have nd2 := (List.nodup_append.mp (q.nodup_iff.mp nd)).2.1
    exact (p1.append_right tf).nodup_iff.mpr nd2
theorem Step.put {i : Nat} {d : D} (G : Good C fs env σ H (fp ++ tf)) : Step [i] tf fs env H (fs.set i fp) (env.set i (some d)) H := by
  refine ⟨fun _ _ => rfl, fun j hj => ?_, fun j hj => ?_, fun _ _ _ _ => rfl, .refl H⟩
  · rw [List.getD_eq_getElem?_getD, List.getElem?_set_ne (by intro z; subst z; simp at hj), List.getD_eq_getElem?_getD]
  · rw [List.getElem?_set, if_neg (by intro z; subst z; simp at hj)]
theorem StepS.put {i : Nat} {d : D} {v : V} (G : Good C fs env σ H (fp ++ tf)) : StepS [i] [i] tf fs env σ H (fs.set i fp) (env.set i (some d)) (σ.set i (some v)) H :=
  ⟨Step.put G, fun j hj => by rw [List.getElem?_set, if_neg (by intro z; subst z; simp at hj)]⟩
end

section
variable {X : Cx} {W : WX} {M M1 M2 M3 V1 V2 V3 Rs R1 R2 R3 : List Nat} {e a b c : Expr} {es : List Expr} {ca cb cc : CE} {cs : CA} {ct : CT} {pos p : Pos} {st : Stmt} {sts : List Stmt} {c1 c2' c3 : CS}
variable {pins : List (Addr × Obj)} {σ : St} {H : Hp} {s : Shared} {C : Ctx}

/-! ### blocks -/
def sNil : CS := fun env => .nx env
def O.bind (o : O) (f : CS) : O := match o with
  | .nx e => f e
  | o => o
def sSeq (c1 c2 : CS) : CS := fun env => (c1 env).bind c2
theorem ss_nil : SSs X W [] [] [] sNil := ⟨tNext, pss_nil, fun C fs env σ H tf E hC G po => po fs σ H G .refl⟩
theorem PostS.weak {tf fs env σ H E} {z : O} (h : ∀ i ∈ M1, i ∈ M2) (hv : ∀ i ∈ V1, i ∈ V2) (po : PostS W C M2 V2 tf fs env σ H E z) : PostS W C M1 V1 tf fs env σ H E z := by
  cases z with
  | nx env' => exact fun fs' σ' H' G s => po fs' σ' H' G (s.weak h hv fun _ z => z)
  | rt d env' => exact fun v fs' σ' H' fp G s r => po v fs' σ' H' fp G (s.weak h hv fun _ z => z) r
  | bk env' => exact fun fs' σ' H' G s => po fs' σ' H' G (s.weak h hv fun _ z => z)
  | ct env' => exact fun fs' σ' H' G s => po fs' σ' H' G (s.weak h hv fun _ z => z)
  | ex x env' => exact fun cv dd fs' σ' H' G s => po cv dd fs' σ' H' G (s.weak h hv fun _ z => z)
  | err => exact po
theorem PostS.step {tf fs env σ H E fs1 env1 σ1 H1} {z : O} (s1 : StepS M1 V1 tf fs env σ H fs1 env1 σ1 H1) (po : PostS W C (M1 ++ M2) (V1 ++ V2) tf fs env σ H E z) : PostS W C M2 V2 tf fs1 env1 σ1 H1 E z := by
  cases z with
  | nx env' => exact fun fs' σ' H' G s => po fs' σ' H' G (s1.trans s)
  | rt d env' => exact fun v fs' σ' H' fp G s r => po v fs' σ' H' fp G (s1.trans s) r
  | bk env' => exact fun fs' σ' H' G s => po fs' σ' H' G (s1.trans s)
  | ct env' => exact fun fs' σ' H' G s => po fs' σ' H' G (s1.trans s)
  | ex x env' => exact fun cv dd fs' σ' H' G s => po cv dd fs' σ' H' G (s1.trans s)
  | err => exact po
theorem mem_l {M1 M2 : List Nat} : ∀ i ∈ M1, i ∈ M1 ++ M2 := fun _ h => List.mem_append_left _ h
theorem mem_r {M1 M2 : List Nat} : ∀ i ∈ M2, i ∈ M1 ++ M2 := fun _ h => List.mem_append_right _ h
theorem post_seq {tf fs env σ H E} {f : CS} {z : O} (po : PostS W C (M1 ++ M2) (V1 ++ V2) tf fs env σ H E (z.bind f)) {K : Ends} (hr : K.rt = E.rt) (hb : K.bk = E.bk) (hc : K.ct = E.ct)
    (hn : ∀ env1, z = .nx env1 → ∀ fs1 σ1 H1, Good C fs1 env1 σ1 H1 tf → StepS M1 V1 tf fs env σ H fs1 env1 σ1 H1 → PostS W C M2 V2 tf fs1 env1 σ1 H1 E (f env1) → K.nx σ1 H1) : PostS W C M1 V1 tf fs env σ H K z := by
  cases z with
  | nx env1 => exact fun fs1 σ1 H1 G1 s1 => hn env1 rfl fs1 σ1 H1 G1 s1 (PostS.step s1 po)
  | rt d env' => show ∀ v fs' σ' H' fp, _ → _ → _ → K.rt v H'; rw [hr]; exact PostS.weak mem_l mem_l (z := .rt d env') po
  | bk env' => show ∀ fs' σ' H', _ → _ → K.bk σ' H'; rw [hb]; exact PostS.weak mem_l mem_l (z := .bk env') po
  | ct env' => show ∀ fs' σ' H', _ → _ → K.ct σ' H'; rw [hc]; exact PostS.weak mem_l mem_l (z := .ct env') po
  | ex x env' => exact PostS.weak mem_l mem_l (z := .ex x env') po
  | err => exact po
theorem ss_cons (h1 : SS X W M1 V1 st c1) (h2 : SSs X W M2 V2 sts c2') : SSs X W (M1 ++ M2) (V1 ++ V2) (st :: sts) (sSeq c1 c2') := by
  obtain ⟨t, p, q⟩ := h1.go
  obtain ⟨t2, p2, q2⟩ := h2.go
  refine ⟨tSeq t t2, pss_cons p p2, fun C fs env σ H tf E hC G po => ?_⟩
  refine q C fs env σ H tf _ hC G ?_
  exact post_seq (f := c2') po rfl rfl rfl fun env1 _ fs1 σ1 H1 G1 s1 po1 => q2 C fs1 env1 σ1 H1 tf E hC G1 po1
theorem ss_one (h1 : SS X W M1 V1 st c1) : SSs X W M1 V1 [st] c1 := by
  obtain ⟨t, p, q⟩ := h1.go
  exact ⟨t, pss_one p, q⟩
/-- a slot is dropped -/
def sKill (i : Nat) (c : CS) : CS := fun env => c (env.set i none)
theorem Good.kill {fs env tf} (G : Good C fs env σ H tf) (i : Nat) : Good C (fs.set i []) (env.set i none) σ H tf := by
  refine ⟨by simpa using G.le, by simpa using G.lf, fun j d' e => ?_, ?_, fun a ha => G.own a ?_, fun a ha => G.trk a ?_, G.fr, G.lk⟩
  · rw [List.getElem?_set] at e
    by_cases hj : i = j
    · subst hj; simp at e
    · rw [if_neg hj] at e
      obtain ⟨v, e1, r⟩ := G.rep j d' e
      refine ⟨v, e1, ?_⟩
      have : (fs.set i []).getD j [] = fs.getD j [] := by
        rw [List.getD_eq_getElem?_getD, List.getElem?_set_ne hj, List.getD_eq_getElem?_getD]
      rw [this]; exact r
  · by_cases hi : i < fs.length
    · have q := (flat_get fs hi).append_right tf
      have := q.nodup_iff.mp G.nd
      rw [List.append_assoc] at this
      exact (List.nodup_append.mp this).2.1
    · rw [List.set_eq_of_length_le (by omega)]; exact G.nd
  all_goals
    rcases List.mem_append.mp ha with z | z
    · by_cases hi : i < fs.length
      · exact List.mem_append_left _ ((flat_get fs hi).mem_iff.mpr (List.mem_append_right _ z))
      · rw [List.set_eq_of_length_le (by omega)] at z; exact List.mem_append_left _ z
    · exact List.mem_append_right _ z
theorem Step.kill {fs : FPs} {env : Env} {tf} (i : Nat) : Step [i] tf fs env H (fs.set i []) (env.set i none) H := by
  refine ⟨fun _ _ => rfl, fun j hj => ?_, fun j hj => ?_, fun _ _ _ _ => rfl, .refl H⟩
  · have hj' : i ≠ j := fun z => by subst z; simp at hj
    rw [List.getD_eq_getElem?_getD, List.getElem?_set_ne hj', List.getD_eq_getElem?_getD]
  · rw [List.getElem?_set, if_neg (by intro z; subst z; simp at hj)]
theorem ss_kill (i : Nat) (h : SSs X W M V1 sts c1) : SSs X W ([i] ++ M) V1 sts (sKill i c1) := by
  obtain ⟨t, p, q⟩ := h.go
  refine ⟨t, p, fun C fs env σ H tf E hC G po => q C _ _ σ H tf E hC (G.kill i) ?_⟩
  exact PostS.step (M1 := [i]) (V1 := []) (M2 := M) (V2 := V1) ⟨Step.kill i, fun _ _ => rfl⟩ po
def sKills (is : List Nat) (c : CS) : CS := fun env => c (is.foldl (fun env i => env.set i none) env)
theorem ss_kills (is : List Nat) (h : SSs X W M V1 sts c1) : SSs X W (is ++ M) V1 sts (sKills is c1) := by
  induction is with
  | nil => exact h
  | cons i is ih => exact ss_kill i ih

/-! ### small statements -/
def sExpr (c : CE) : CS := fun env => match c env with
  | .ok _ env => .nx env
  | .ex x env => .ex x env
  | .err => .err
theorem ss_expr (h : SB X W M Rs e ca) (hs : swapsWith e none pos.line X.env = pure false := by rfl) : SS X W M [] (.Expr e pos) (sExpr ca) := by
  obtain ⟨t, p, q⟩ := h.go
  refine ⟨tDrop t, ps_expr p hs, fun C fs env σ H tf E hC G po => q C fs env σ H tf _ hC G ?_⟩
  unfold sExpr at po
  cases e1 : ca env with
  | err => rw [e1] at po; exact po
  | ex x env' => rw [e1] at po; exact fun cv dd fs' H' G' s => po cv dd fs' σ H' G' s.ss
  | ok d env' => rw [e1] at po; exact fun v fs' H' fp own G' s r i => po fs' σ H' G'.drop s.ss
def sRet (c : CE) : CS := fun env => match c env with
  | .ok d env => .rt d env
  | .ex x env => .ex x env
  | .err => .err
theorem ss_ret (h : SO X W M e ca) : SS X W M [] (.Return (some e) pos) (sRet ca) := by
  obtain ⟨t, p, q⟩ := h.go
  refine ⟨tRet t, ps_ret p, fun C fs env σ H tf E hC G po => q C fs env σ H tf _ hC G ?_⟩
  unfold sRet at po
  cases e1 : ca env with
  | err => rw [e1] at po; exact po
  | ex x env' => rw [e1] at po; exact fun cv dd fs' H' G' s => po cv dd fs' σ H' G' s.ss
  | ok d env' => rw [e1] at po; exact fun v fs' H' fp G' s r => po v fs' σ H' fp G' s.ss r
theorem ss_retN : SS X W [] [] (.Return none pos) (fun env => .rt .non env) :=
  ⟨tRetN, ps_retN, fun C fs env σ H tf E hC G po => po .non fs σ H [] (by simpa using G) .refl ⟨rfl, rfl⟩⟩
theorem ss_pass : SS X W [] [] (.Pass pos) sNil := ⟨tNext, ps_pass, fun C fs env σ H tf E hC G po => po fs σ H G .refl⟩
theorem ss_break : SS X W [] [] (.Break pos) (fun env => .bk env) := ⟨tBreak, ps_break, fun C fs env σ H tf E hC G po => po fs σ H G .refl⟩
theorem ss_continue : SS X W [] [] (.Continue pos) (fun env => .ct env) := ⟨tCont, ps_continue, fun C fs env σ H tf E hC G po => po fs σ H G .refl⟩
theorem ss_doc {x j pos'} : SS X W [] [] (.Expr (.Constant (.str x) j pos) pos') sNil := ⟨tNext, ps_doc, fun C fs env σ H tf E hC G po => po fs σ H G .refl⟩
def sIf (ct : CT) (c1 c2 : CS) : CS := fun env => match ct env with
  | .ok k env => if k = true then c1 env else c2 env
  | .ex x env => .ex x env
  | .err => .err
theorem ss_if {sa sb : List Stmt} (hc : ST X W M1 c ct) (ha : SSs X W M2 V2 sa c1) (hb : SSs X W M3 V3 sb c2') : SS X W (M1 ++ (M2 ++ M3)) (V2 ++ V3) (.If c sa sb pos) (sIf ct c1 c2') := by
  obtain ⟨t, p, q⟩ := hc.go
  obtain ⟨t2, p2, q2⟩ := ha.go
  obtain ⟨t3, p3, q3⟩ := hb.go
  refine ⟨tIfS t t2 t3, ps_if p p2 p3, fun C fs env σ H tf E hC G po => q C fs env σ H tf _ hC G ?_⟩
  unfold sIf at po
  cases e1 : ct env with
  | err => rw [e1] at po; exact po
  | ex x env' => rw [e1] at po; exact fun cv dd fs' H' G' s => po cv dd fs' σ H' G' (s.ss.weak mem_l (fun _ z => nomatch z) fun _ z => z)
  | ok k env1 =>
    rw [e1] at po
    intro fs1 H1 G1 s1
    have po1 : PostS W C (M1 ++ (M2 ++ M3)) ([] ++ (V2 ++ V3)) tf fs env σ H E (if k = true then c1 env1 else c2' env1) := po
    have po2 := PostS.step s1.ss po1
    cases k with
    | true => exact q2 C fs1 env1 σ H1 tf E hC G1 (PostS.weak mem_l mem_l po2)
    | false => exact q3 C fs1 env1 σ H1 tf E hC G1 (PostS.weak mem_r mem_r po2)

/-! ### targets -/
def gSet (i : Nat) : D → Env → Option Env := fun d env => some (env.set i (some d))
theorem sg_name (i : Nat) {x : Str} (hN : X.N.Nodup) (hi : X.N[i]? = some x := by rfl) (hx : Loc X.env.scope x := by first | exact .inl rfl | exact .inr rfl) (hf : X.fn x = true ∨ X.env.scope.names.lookup x = some .local := by first | exact .inl rfl | exact .inr rfl | assumption) : SG X [i] [i] (.Name x pos) (gSet i) :=
  ⟨gName i, pg_name hN hi hx hf, fun C fs env σ H tf Q d v fp hC G r po => po _ _ _ (G.put r) (StepS.put G)⟩
def gNilD : List D → Env → Option Env
  | [], env => some env
  | _, _ => none
def gConsD (g : D → Env → Option Env) (gs : List D → Env → Option Env) : List D → Env → Option Env
  | d :: ds, env => (g d env).bind fun env => gs ds env
  | _, _ => none
theorem sgs_nil : SGs X [] [] [] gNilD := by
  refine ⟨gNil, pgs_nil, fun C fs env σ H tf Q ds vs fp hC G r po => ?_⟩
  cases ds with
  | nil => obtain ⟨rfl, rfl⟩ := r; exact ⟨rfl, po fs σ H G.drop .refl⟩
  | cons d ds => exact po.elim
theorem sgs_cons {t : Expr} {ts : List Expr} {g : D → Env → Option Env} {gs : List D → Env → Option Env} (h1 : SG X M1 V1 t g) (h2 : SGs X M2 V2 ts gs)
    (hs : (assignEach (t :: ts) X.env).map (·.2) = assign t X.env :: (assignEach ts X.env).map (·.2) := by rfl) : SGs X (M1 ++ M2) (V1 ++ V2) (t :: ts) (gConsD g gs) := by
  obtain ⟨t1, p1, q1⟩ := h1.go
  obtain ⟨t2, p2, q2⟩ := h2.go
  refine ⟨gCons t1 t2, pgs_cons p1 p2 hs, fun C fs env σ H tf Q ds vs fp hC G r po => ?_⟩
  cases ds with
  | nil => exact po.elim
  | cons d ds =>
    obtain ⟨v, vs', f1, f2, rfl, r1, r2, rfl⟩ := r
    refine ⟨v, vs', rfl, ?_⟩
    have po' : PostG C (M1 ++ M2) (V1 ++ V2) tf fs env σ H Q ((g d env).bind fun env => gs ds env) := po
    refine q1 C fs env σ H (f2 ++ tf) _ d v f1 hC (by rw [← List.append_assoc]; exact G) r1 ?_
    cases e1 : g d env with
    | none => rw [e1] at po'; exact po'.elim
    | some env1 =>
      rw [e1] at po'
      intro fs1 σ1 H1 G1 s1
      refine q2 C fs1 env1 σ1 H1 tf Q ds vs' f2 hC G1 (r2.keep (fun a ha => s1.s.t a (List.mem_append_left _ ha)) s1.s.m) ?_
      have po2 : PostG C (M1 ++ M2) (V1 ++ V2) tf fs env σ H Q (gs ds env1) := po'
      have w1 := s1.weak (fun _ z => z) (fun _ z => z) (tf' := tf) fun x hx => List.mem_append_right _ hx
      cases e2 : gs ds env1 with
      | none => rw [e2] at po2; exact po2.elim
      | some env2 =>
        rw [e2] at po2
        exact fun fs2 σ2 H2 G2 s2 => po2 fs2 σ2 H2 G2 (w1.trans s2)
def gTupD (n : Nat) (gs : List D → Env → Option Env) : D → Env → Option Env
  | .tup ds, env => if ds.length = n then gs ds env else none
  | _, _ => none
theorem sg_tup {ts : List Expr} {k : Nat} {gs : List D → Env → Option Env} (hc : X.calm = true) (h : SGs X M V1 ts gs) (hst : (assignEach ts X.env).findIdx? (·.1) = none := by rfl) :
    SG X M V1 (.Tuple ts k pos) (gTupD (assignEach ts X.env).length gs) := by
  obtain ⟨t, p, q⟩ := h.go
  refine ⟨gTup X.K (assignEach ts X.env).length t, pg_tup hc p rfl hst, fun C fs env σ H tf Q d v fp hC G r po => ?_⟩
  cases d with
  | tup ds =>
    obtain ⟨a, vs, rfl, hq, rs⟩ := rep_tup hC r
    have po' : PostG C M V1 tf fs env σ H Q (if ds.length = (assignEach ts X.env).length then gs ds env else none) := po
    by_cases hl : ds.length = (assignEach ts X.env).length
    · rw [if_pos hl] at po'
      exact ⟨a, vs, rfl, hq, by rw [← reps_length rs]; exact hl, q C fs env σ H tf Q ds vs fp hC G rs po'⟩
    · rw [if_neg hl] at po'; exact po'.elim
  | _ => exact po.elim

/-! ### assignments -/
def sAsg (c : CE) (g : D → Env → Option Env) : CS := fun env => match c env with
  | .ok d env => match g d env with
    | some env => .nx env
    | none => .err
  | .ex x env => .ex x env
  | .err => .err
theorem asg_go {t : TE} {g : TG} {gd : D → Env → Option Env} {tf fs env E} (hC : C.At X) (G : Good C fs env σ H tf)
    (q : ∀ C fs env σ H tf Q, C.At X → Good C fs env σ H tf → PostO W C M1 tf fs env σ H Q (ca env) → t σ H Q)
    (qg : ∀ C fs env σ H tf Q d v fp, C.At X → Good C fs env σ H (fp ++ tf) → Rep C H d v fp → PostG C M2 V2 tf fs env σ H Q (gd d env) → g v σ H Q)
    (po : PostS W C (M1 ++ M2) V2 tf fs env σ H E (sAsg ca gd env)) : t σ H fun x H1 => g x σ H1 E.nx := by
  refine q C fs env σ H tf _ hC G ?_
  unfold sAsg at po
  cases e1 : ca env with
  | err => rw [e1] at po; exact po
  | ex x env' => rw [e1] at po; exact fun cv dd fs' H' G' s => po cv dd fs' σ H' G' (s.ss.weak mem_l (fun _ z => nomatch z) fun _ z => z)
  | ok d env1 =>
    rw [e1] at po
    intro v fs1 H1 fp G1 s1 r1
    refine qg C fs1 env1 σ H1 tf _ d v fp hC G1 r1 ?_
    have po' : PostS W C (M1 ++ M2) V2 tf fs env σ H E (match gd d env1 with
      | some env => .nx env
      | none => .err) := po
    cases e2 : gd d env1 with
    | none => rw [e2] at po'; exact po'
    | some env2 =>
      rw [e2] at po'
      exact fun fs2 σ2 H2 G2 s2 => po' fs2 σ2 H2 G2 (s1.ss.trans s2)
theorem ss_set (i : Nat) {x : Str} {pos' : Pos} (hN : X.N.Nodup) (h : SO X W M e ca) (hi : X.N[i]? = some x := by rfl) (hx : Loc X.env.scope x := by first | exact .inl rfl | exact .inr rfl) (hs : swapsWith e (some (.Name x pos')) pos.line X.env = pure false := by rfl) (hf : X.fn x = true ∨ X.env.scope.names.lookup x = some .local := by first | exact .inl rfl | exact .inr rfl | assumption) :
    SS X W (M ++ [i]) [i] (.Assign [.Name x pos'] e pos) (sAsg ca (gSet i)) := by
  obtain ⟨t, p, q⟩ := h.go
  refine ⟨tAsg t (gName i), ps_set hN hi hx p hs hf, fun C fs env σ H tf E hC G po => ?_⟩
  exact asg_go (gd := gSet i) (M2 := [i]) (V2 := [i]) hC G q (fun C fs env σ H tf Q d v fp hC G r po => po _ _ _ (G.put r) (StepS.put G)) po
theorem ss_asg {tg : Expr} {g : D → Env → Option Env} (h : SO X W M e ca) (hg : SG X M2 V2 tg g) (hs : swapsWithSole [tg] e pos.line X.env = pure false := by rfl) (hw : swappedStores [tg] e X.env = pure none := by rfl)
    (h1 : (assignEach [tg] X.env).map (·.2) = [assign tg X.env] := by rfl) : SS X W (M ++ M2) V2 (.Assign [tg] e pos) (sAsg ca g) := by
  obtain ⟨t, p, q⟩ := h.go
  obtain ⟨t2, p2, q2⟩ := hg.go
  refine ⟨tAsg t t2, ps_asg p p2 hs hw h1, fun C fs env σ H tf E hC G po => ?_⟩
  exact asg_go (gd := g) (M2 := M2) (V2 := V2) hC G q q2 po
/-- a, b = x, y with plain names -/
def sPar (i j : Nat) (cs : CA) : CS := fun env => match cs env with
  | .ok [d, e] env => .nx ((env.set i (some d)).set j (some e))
  | .ok _ _ => .err
  | .ex x env => .ex x env
  | .err => .err
theorem ss_par (i j : Nat) {x y : Str} {px py pt : Pos} {kt k2 pt2} (hc : X.calm = true) (hN : X.N.Nodup) (ha : SAO X W M [a, b] cs) (hi : X.N[i]? = some x := by rfl) (hj : X.N[j]? = some y := by rfl) (hij : i ≠ j := by decide)
    (hx : X.env.scope.names.lookup x = some .local := by rfl) (hy : X.env.scope.names.lookup y = some .local := by rfl)
    (hw : swappedStores [.Tuple [.Name x px, .Name y py] kt pt] (.Tuple [a, b] k2 pt2) X.env = pure (some [x, y]) := by rfl)
    (hs : swapsWithSole [.Tuple [.Name x px, .Name y py] kt pt] (.Tuple [a, b] k2 pt2) pos.line X.env = pure false := by rfl) :
    SS X W (M ++ ([i] ++ [j])) ([i] ++ [j]) (.Assign [.Tuple [.Name x px, .Name y py] kt pt] (.Tuple [a, b] k2 pt2) pos) (sPar i j cs) := by
  obtain ⟨t, p, q⟩ := ha.go
  refine ⟨tPar i j t, ps_par hc hN hi hj hij hx hy p hw hs, fun C fs env σ H tf E hC G po => q C fs env σ H tf _ hC G ?_⟩
  unfold sPar at po
  cases e1 : cs env with
  | err => rw [e1] at po; exact po
  | ex x env' => rw [e1] at po; exact fun cv dd fs' H' G' s => po cv dd fs' σ H' G' (s.ss.weak mem_l (fun _ z => nomatch z) fun _ z => z)
  | ok ds env1 =>
    rw [e1] at po
    intro vs fs1 H1 fp G1 s1 r1
    match ds, r1, po with
    | [], _, po => exact po.elim
    | [_], _, po => exact po.elim
    | _ :: _ :: _ :: _, _, po => exact po.elim
    | [d, d2], r1, po =>
      obtain ⟨v, w, f1, f2, rfl, ra, r2, rfl⟩ := reps2 r1
      refine ⟨v, w, rfl, ?_⟩
      have G1' : Good C fs1 env1 σ H1 (f1 ++ (f2 ++ tf)) := by rw [← List.append_assoc]; exact G1
      have Ga := G1'.put (i := i) ra
      have Gb := Ga.put (i := j) r2
      have sa := StepS.put (i := i) (d := d) (v := v) G1'
      have sb := StepS.put (i := j) (d := d2) (v := w) Ga
      refine po _ _ _ Gb ?_
      exact s1.ss.trans ((sa.weak (fun _ z => z) (fun _ z => z) fun x hx => List.mem_append_right _ hx).trans sb)
end
end VS

set_option maxRecDepth 100000
namespace VS
open PySem L2 SeqAt
/-- what a walk gives: its items, while the nodes fp stand -/
structure SrcOk (C : Ctx) (J : It) (ds : List D) (fp : List Addr) (H1 : Hp) : Prop where
  walk : Walk J ds.length (fun H => Fr C H ∧ Mono H1 H ∧ ∀ a ∈ fp, H a = H1 a) (fun i H x H' => Le H H' ∧ ∃ d, ds[i]? = some d ∧ Rep C H' d x [])
def PostI (W : WX) (C : Ctx) (M Rs : List Nat) (tf : List Addr) (fs : FPs) (env : Env) (σ : St) (H : Hp) (Q : It → Hp → Prop) : R (List D) → Prop
  | .ok ds env' => ∀ J fs' H' fp own, Good C fs' env' σ H' (own ++ tf) → Step M tf fs env H fs' env' H' → SrcOk C J ds fp H' → In Rs own fs' fp → Q J H'
  | .ex x env' => ∀ cv dd fs' H', Good C fs' env' σ H' tf → Step M tf fs env H fs' env' H' → ExIs C x cv dd H' → W cv dd σ H'
  | .err => False
structure SI (X : Cx) (W : WX) (M Rs : List Nat) (tg e : Expr) (c : CA) : Prop where
  go : ∃ t, PI X tg e t ∧ ∀ C fs env σ H tf Q, C.At X → Good C fs env σ H tf → PostI W C M Rs tf fs env σ H Q (c env) → t σ H Q
def forRun (g : D → Env → Option Env) (body : CS) : List D → Env → O
  | [], env => .nx env
  | d :: ds, env => match g d env with
    | none => .err
    | some env1 => match body env1 with
      | .nx env2 => forRun g body ds env2
      | .ct env2 => forRun g body ds env2
      | .bk env2 => .nx env2
      | o => o
def sFor (src : CA) (g : D → Env → Option Env) (body : CS) : CS := fun env => match src env with
  | .ok ds env => forRun g body ds env
  | .ex x env => .ex x env
  | .err => .err
def whRun (ct : CT) (body : CS) : Nat → Env → O
  | 0, _ => .err
  | n + 1, env => match ct env with
    | .ok true env1 => match body env1 with
      | .nx env2 => whRun ct body n env2
      | .ct env2 => whRun ct body n env2
      | .bk env2 => .nx env2
      | o => o
    | .ok false env1 => .nx env1
    | .ex x env => .ex x env
    | .err => .err
def sWhile (μ : Env → Nat) (ct : CT) (body : CS) : CS := fun env => whRun ct body (μ env) env

section
variable {X : Cx} {W : WX} {M M1 M2 M3 V1 V2 V3 Rs R1 R2 R3 : List Nat} {e a b c tg : Expr} {es : List Expr} {ca cb cc : CE} {cs src : CA} {ct : CT} {pos p : Pos} {st : Stmt} {sts body : List Stmt} {c1 c2' c3 cb' : CS} {g : D → Env → Option Env}
variable {pins : List (Addr × Obj)} {σ : St} {H : Hp} {s : Shared} {C : Ctx}

theorem ss_for (hp : PassesOwn (model X.prog X.w) X.A X.env X.xe) (hc : X.calm = true) (hi : SI X W M1 R1 tg e src) (hg : SG X M2 V2 tg g) (hb : SSs X W M3 V3 body cb')
    (hd : djB R1 (M2 ++ M3) = true := by decide) (hs : ∀ x, foldedSetIterable e X.env x = pure x := by intro _; rfl) : SS X W (M1 ++ (M2 ++ M3)) (V2 ++ V3) (.For tg e body [] pos) (sFor src g cb') := by
  obtain ⟨t, p, q⟩ := hi.go
  obtain ⟨t2, p2, q2⟩ := hg.go
  obtain ⟨t3, p3, q3⟩ := hb.go
  refine ⟨tFor t t2 t3, ps_for hp hc p p2 p3 hs, fun C fs env σ H tf E hC G po => ?_⟩
  show t σ H fun J H1 => _
  refine q C fs env σ H tf _ hC G ?_
  unfold sFor at po
  cases e1 : src env with
  | err => rw [e1] at po; exact po
  | ex x env' => rw [e1] at po; exact fun cv dd fs' H' G' s => po cv dd fs' σ H' G' (s.ss.weak mem_l (fun _ z => nomatch z) fun _ z => z)
  | ok ds env1 =>
    rw [e1] at po
    intro J fs1 H1 fp own G1 s1 src1 i1
    have po1 : PostS W C (M1 ++ (M2 ++ M3)) ([] ++ (V2 ++ V3)) tf fs env σ H E (forRun g cb' ds env1) := po
    have po2 := PostS.step s1.ss po1
    have dj := djB_ok hd
    refine for_it (n := ds.length) src1.walk (fun i σ' H' => ∃ fs' env', Good C fs' env' σ' H' (own ++ tf) ∧ StepS (M2 ++ M3) (V2 ++ V3) (own ++ tf) fs1 env1 σ H1 fs' env' σ' H' ∧ PostS W C (M2 ++ M3) (V2 ++ V3) tf fs1 env1 σ H1 E (forRun g cb' (ds.drop i) env'))
      ⟨fs1, env1, G1, .refl, by simpa using po2⟩ ?_ ?_ ?_
    · rintro i σ' H' hi ⟨fs', env', G', s', _⟩
      exact ⟨G'.fr, s'.s.m, i1.keep s'.s dj⟩
    · rintro i x σ' H' H2 hi ⟨fs', env', G', s', po'⟩ ⟨le, d, hd', rd⟩
      have hdrop : ds.drop i = d :: ds.drop (i + 1) := by
        rw [List.drop_eq_getElem_cons hi]
        have := List.getElem?_eq_some_iff.mp hd'
        obtain ⟨_, h⟩ := this
        rw [h]
      rw [hdrop] at po'
      have G2 := G'.le' le
      have s2 := s'.trans (Step.grow (M := []) G' le).ss
      have s2 : StepS (M2 ++ M3) (V2 ++ V3) (own ++ tf) fs1 env1 σ H1 fs' env' σ' H2 := by simpa using s2
      have po3 : PostS W C (M2 ++ M3) (V2 ++ V3) tf fs1 env1 σ H1 E (match g d env' with
        | none => .err
        | some env1 => match cb' env1 with
          | .nx env2 => forRun g cb' (ds.drop (i + 1)) env2
          | .ct env2 => forRun g cb' (ds.drop (i + 1)) env2
          | .bk env2 => .nx env2
          | o => o) := po'
      refine q2 C fs' env' σ' H2 (own ++ tf) _ d x [] hC (by simpa using G2) rd ?_
      cases eg : g d env' with
      | none => rw [eg] at po3; exact po3.elim
      | some env3 =>
        rw [eg] at po3
        intro fs3 σ3 H3 G3 s3
        refine q3 C fs3 env3 σ3 H3 (own ++ tf) _ hC G3 ?_
        have po4 : PostS W C (M2 ++ M3) (V2 ++ V3) tf fs1 env1 σ H1 E (match cb' env3 with
          | .nx env2 => forRun g cb' (ds.drop (i + 1)) env2
          | .ct env2 => forRun g cb' (ds.drop (i + 1)) env2
          | .bk env2 => .nx env2
          | o => o) := po3
        have s3' : StepS (M2 ++ M3) (V2 ++ V3) (own ++ tf) fs1 env1 σ H1 fs3 env3 σ3 H3 := (s2.trans (s3.weak mem_l mem_l (M' := M2 ++ M3) (Vs' := V2 ++ V3) fun _ z => z)).weak (fun i hi => (List.mem_append.mp hi).elim id id) (fun i hi => (List.mem_append.mp hi).elim id id) fun _ z => z
        have comp : ∀ {fs4 env4 σ4 H4}, StepS M3 V3 (own ++ tf) fs3 env3 σ3 H3 fs4 env4 σ4 H4 → StepS (M2 ++ M3) (V2 ++ V3) (own ++ tf) fs1 env1 σ H1 fs4 env4 σ4 H4 := fun {fs4 env4 σ4 H4} s4 =>
          (s3'.trans (s4.weak (M' := M2 ++ M3) (Vs' := V2 ++ V3) mem_r mem_r fun _ z => z)).weak (fun i hi => (List.mem_append.mp hi).elim id id) (fun i hi => (List.mem_append.mp hi).elim id id) fun _ z => z
        have tfw : ∀ {fs4 env4 σ4 H4}, StepS M3 V3 (own ++ tf) fs3 env3 σ3 H3 fs4 env4 σ4 H4 → StepS (M2 ++ M3) (V2 ++ V3) tf fs1 env1 σ H1 fs4 env4 σ4 H4 := fun {fs4 env4 σ4 H4} s4 => (comp s4).weak (fun _ z => z) (fun _ z => z) fun x hx => List.mem_append_right _ hx
        cases eb : cb' env3 with
        | nx env4 =>
          rw [eb] at po4
          exact fun fs4 σ4 H4 G4 s4 => ⟨fs4, env4, G4, comp s4, po4⟩
        | ct env4 =>
          rw [eb] at po4
          exact fun fs4 σ4 H4 G4 s4 => ⟨fs4, env4, G4, comp s4, po4⟩
        | bk env4 =>
          rw [eb] at po4
          exact fun fs4 σ4 H4 G4 s4 => po4 fs4 σ4 H4 G4.drop (tfw s4)
        | rt d4 env4 =>
          rw [eb] at po4
          intro v fs4 σ4 H4 fp4 G4 s4 r4
          refine po4 v fs4 σ4 H4 fp4 (G4.sub ?_) (tfw s4) r4
          exact (List.Sublist.refl _).append (List.sublist_append_right _ _)
        | ex x4 env4 =>
          rw [eb] at po4
          exact fun cv dd fs4 σ4 H4 G4 s4 => po4 cv dd fs4 σ4 H4 G4.drop (tfw s4)
        | err => rw [eb] at po4; exact po4
    · rintro σ' H' ⟨fs', env', G', s', po'⟩
      rw [List.drop_length] at po'
      exact po' fs' σ' H' G'.drop (s'.weak (fun _ z => z) (fun _ z => z) fun x hx => List.mem_append_right _ hx)

theorem ss_while (μ : Env → Nat) (hp : PassesOwn (model X.prog X.w) X.A X.env X.xe) (hc : ST X W M1 c ct) (hb : SSs X W M2 V2 body cb') : SS X W (M1 ++ M2) V2 (.While c body [] pos) (sWhile μ ct cb') := by
  obtain ⟨t, p, q⟩ := hc.go
  obtain ⟨t3, p3, q3⟩ := hb.go
  refine ⟨tWhile t t3, ps_while hp p p3, fun C fs env σ H tf E hC G po => ?_⟩
  refine ⟨fun m σ' H' => ∃ fs' env', Good C fs' env' σ' H' tf ∧ StepS (M1 ++ M2) V2 tf fs env σ H fs' env' σ' H' ∧ PostS W C (M1 ++ M2) V2 tf fs env σ H E (whRun ct cb' m env'), ⟨μ env, fs, env, G, .refl, po⟩, ?_⟩
  rintro m σ' H' ⟨fs', env', G', s', po'⟩
  cases m with
  | zero => exact po'.elim
  | succ m =>
    refine q C fs' env' σ' H' tf _ hC G' ?_
    have po1 : PostS W C (M1 ++ M2) V2 tf fs env σ H E (match ct env' with
      | .ok true env1 => match cb' env1 with
        | .nx env2 => whRun ct cb' m env2
        | .ct env2 => whRun ct cb' m env2
        | .bk env2 => .nx env2
        | o => o
      | .ok false env1 => .nx env1
      | .ex x env => .ex x env
      | .err => .err) := po'
    have comp1 : ∀ {fs4 env4 H4}, Step M1 tf fs' env' H' fs4 env4 H4 → StepS (M1 ++ M2) V2 tf fs env σ H fs4 env4 σ' H4 := fun {fs4 env4 H4} s4 =>
      (s'.trans (s4.ss.weak (M' := M1 ++ M2) (Vs' := V2) mem_l (fun _ z => nomatch z) fun _ z => z)).weak (fun i hi => (List.mem_append.mp hi).elim id id) (fun i hi => (List.mem_append.mp hi).elim id id) fun _ z => z
    cases e1 : ct env' with
    | err => rw [e1] at po1; exact po1
    | ex x env1 => rw [e1] at po1; exact fun cv dd fs1 H1 G1 s1 => po1 cv dd fs1 σ' H1 G1 (comp1 s1)
    | ok k env1 =>
      intro fs1 H1 G1 s1
      rw [e1] at po1
      cases k with
      | false => exact po1 fs1 σ' H1 G1 (comp1 s1)
      | true =>
        refine ⟨fun σ3 H3 => ∃ fs3 env3, Good C fs3 env3 σ3 H3 tf ∧ StepS (M1 ++ M2) V2 tf fs env σ H fs3 env3 σ3 H3 ∧ PostS W C (M1 ++ M2) V2 tf fs env σ H E (whRun ct cb' m env3), fun σ3 H3 h => ⟨m, Nat.lt_succ_self m, h⟩, ?_⟩
        refine q3 C fs1 env1 σ' H1 tf _ hC G1 ?_
        have s1' := comp1 s1
        have comp : ∀ {fs4 env4 σ4 H4}, StepS M2 V2 tf fs1 env1 σ' H1 fs4 env4 σ4 H4 → StepS (M1 ++ M2) V2 tf fs env σ H fs4 env4 σ4 H4 := fun {fs4 env4 σ4 H4} s4 =>
          (s1'.trans (s4.weak (M' := M1 ++ M2) (Vs' := V2) mem_r (fun _ z => z) fun _ z => z)).weak (fun i hi => (List.mem_append.mp hi).elim id id) (fun i hi => (List.mem_append.mp hi).elim id id) fun _ z => z
        have po2 : PostS W C (M1 ++ M2) V2 tf fs env σ H E (match cb' env1 with
          | .nx env2 => whRun ct cb' m env2
          | .ct env2 => whRun ct cb' m env2
          | .bk env2 => .nx env2
          | o => o) := po1
        cases eb : cb' env1 with
        | nx env4 => rw [eb] at po2; exact fun fs4 σ4 H4 G4 s4 => ⟨fs4, env4, G4, comp s4, po2⟩
        | ct env4 => rw [eb] at po2; exact fun fs4 σ4 H4 G4 s4 => ⟨fs4, env4, G4, comp s4, po2⟩
        | bk env4 => rw [eb] at po2; exact fun fs4 σ4 H4 G4 s4 => po2 fs4 σ4 H4 G4 (comp s4)
        | rt d4 env4 => rw [eb] at po2; exact fun v fs4 σ4 H4 fp4 G4 s4 r4 => po2 v fs4 σ4 H4 fp4 G4 (comp s4) r4
        | ex x4 env4 => rw [eb] at po2; exact fun cv dd fs4 σ4 H4 G4 s4 => po2 cv dd fs4 σ4 H4 G4 (comp s4)
        | err => rw [eb] at po2; exact po2

/-! ### what is walked -/
/-- range(n) -/
def rngItems : List D → Option (List D)
  | [.int j] => if -(2 ^ 62) ≤ j ∧ j < 2 ^ 62 then some ((List.range j.toNat).map fun i => .int (i : Nat)) else none
  | _ => none
def iRange1 (cs : CA) : CA := fun env => (cs env).bind fun ds env => R.of (rngItems ds) env
theorem srcRange {lo : Int} {n : Nat} : SrcOk C (Itr lo n) ((List.range n).map fun (i : Nat) => D.int (lo + (i : Nat))) [] H := by
  refine ⟨?_⟩
  have hl : ((List.range n).map fun (i : Nat) => D.int (lo + (i : Nat))).length = n := by simp
  rw [hl]
  refine walk_range.mono (fun _ _ => trivial) fun i H x H' hi _ ⟨e1, e2⟩ => ?_
  subst e1 e2
  exact ⟨.refl _, .int (lo + i), by simp [hi], rfl, rfl⟩
theorem si_range1 {p2 : Pos} (hg : Gl X "range") (hm : X.mg "range" = none) (ha : SA X W M Rs [a] cs) (hs : starEach [a] X.env = [(false, eval a X.env)] := by rfl) : SI X W M [] tg (.Call (.Name "range" p2) [a] [] pos) (iRange1 cs) := by
  obtain ⟨t, p, q⟩ := ha.go
  refine ⟨iRng1 t, pi_range1 hg hm p hs, fun C fs env σ H tf Q hC G po => q C fs env σ H tf _ hC G ?_⟩
  unfold iRange1 at po
  cases e1 : cs env with
  | err => rw [e1] at po; exact po
  | ex x env' => rw [e1] at po; exact po
  | ok ds env1 =>
    rw [e1] at po
    intro vs fs1 H1 fp own G1 s1 r1 i1
    have po' : PostI W C M [] tf fs env σ H Q (R.of (rngItems ds) env1) := po
    cases e2 : rngItems ds with
    | none => rw [e2] at po'; exact po'.elim
    | some its =>
      rw [e2] at po'
      unfold rngItems at e2
      split at e2
      · rename_i j
        obtain ⟨v, rfl, r⟩ := reps1 r1
        obtain ⟨rfl, _⟩ := r
        split at e2
        · rename_i hj
          cases e2
          refine ⟨j, rfl, hj.1, hj.2, po' _ fs1 H1 [] [] (by simpa using G1.drop) s1 ?_ fun _ z => nomatch z⟩
          have := srcRange (C := C) (H := H1) (lo := 0) (n := j.toNat)
          simpa using this
        · cases e2
      · cases e2
/-- a list or tuple that stands, its items without nodes of ours -/
def iSeq (c : CE) : CA := fun env => (c env).bind fun d env => match d with
  | .lst _ ds => if imms ds then .ok ds env else .err
  | _ => .err
theorem reps_imm_get : ∀ {ds : List D} {vs : List V} {fp : List Addr} {i : Nat} {x : V}, Reps C H ds vs fp → imms ds = true → vs[i]? = some x → ∃ d, ds[i]? = some d ∧ Rep C H d x []
  | [], vs, fp, i, x, ⟨e, _⟩, _, h => by subst e; simp at h
  | d :: ds, vs, fp, 0, x, ⟨v, vs', f1, f2, e, r, rs, _⟩, hi, h => by
    subst e
    have z := Bool.and_eq_true_iff.mp hi
    simp at h; subst h
    have := r.imm z.1
    subst this
    exact ⟨d, by simp, r⟩
  | d :: ds, vs, fp, i + 1, x, ⟨v, vs', f1, f2, e, r, rs, _⟩, hi, h => by
    subst e
    have z := Bool.and_eq_true_iff.mp hi
    obtain ⟨d', h1, h2⟩ := reps_imm_get (i := i) rs z.2 (by simpa using h)
    exact ⟨d', by simpa using h1, h2⟩
theorem si_list (h : SB X W M Rs e ca) : SI X W M Rs tg e (iSeq ca) := by
  obtain ⟨t, p, q⟩ := h.go
  refine ⟨iList X.K t, pi_list p, fun C fs env σ H tf Q hC G po => q C fs env σ H tf _ hC G ?_⟩
  unfold iSeq at po
  cases e1 : ca env with
  | err => rw [e1] at po; exact po
  | ex x env' => rw [e1] at po; exact po
  | ok d env1 =>
    rw [e1] at po
    intro v fs1 H1 fp own G1 s1 r1 i1
    cases d with
    | lst g ds =>
      have po' : PostI W C M Rs tf fs env σ H Q (if imms ds then .ok ds env1 else .err) := po
      by_cases hi : imms ds = true
      · rw [if_pos hi] at po'
        have r1' := r1
        obtain ⟨a, vs, f1, f2, rfl, n, rs, hz, ef⟩ := r1
        have sq : SqL X.K H1 a vs := by have := (Nd.rd n G1.fr).sql; rwa [hC.1] at this
        refine ⟨a, rfl, ⟨vs, sq⟩, po' _ fs1 H1 fp own G1 s1 ⟨?_⟩ i1⟩
        have z := rs.imm hi
        subst z
        rw [reps_length rs]
        refine Walk.mono (walk_list (K := X.K) (a := a) (xs := vs)) (fun H2 ⟨hf2, hm, hk⟩ => ?_) fun i H2 x H3 hi2 ⟨hf2, hm, hk⟩ ⟨e1, e2⟩ => ?_
        · have n2 : Nd C H2 g a (.lst vs) f1 := Nd.keep n (fun b hb => hk b (by rw [ef]; simp [hb])) hm
          have := (Nd.rd n2 hf2).sql; rwa [hC.1] at this
        · subst e1
          have rs2 : Reps C H3 ds vs [] := rs.keep (fun b hb => nomatch hb) hm
          obtain ⟨d, h1, h2⟩ := reps_imm_get rs2 hi e2
          exact ⟨.refl _, d, h1, h2⟩
      · rw [if_neg hi] at po'; exact po'.elim
    | _ => exact po.elim
def iTupD (c : CE) : CA := fun env => (c env).bind fun d env => match d with
  | .tup ds => if imms ds then .ok ds env else .err
  | _ => .err
theorem si_tup (h : SB X W M Rs e ca) : SI X W M Rs tg e (iTupD ca) := by
  obtain ⟨t, p, q⟩ := h.go
  refine ⟨iTup X.K t, pi_tup p, fun C fs env σ H tf Q hC G po => q C fs env σ H tf _ hC G ?_⟩
  unfold iTupD at po
  cases e1 : ca env with
  | err => rw [e1] at po; exact po
  | ex x env' => rw [e1] at po; exact po
  | ok d env1 =>
    rw [e1] at po
    intro v fs1 H1 fp own G1 s1 r1 i1
    cases d with
    | tup ds =>
      have po' : PostI W C M Rs tf fs env σ H Q (if imms ds then .ok ds env1 else .err) := po
      by_cases hi : imms ds = true
      · rw [if_pos hi] at po'
        have r1' := r1
        obtain ⟨a, vs, rfl, n, rs⟩ := r1
        have sq : SqT X.K H1 a vs := by rwa [hC.1] at n
        refine ⟨a, rfl, ⟨vs, sq⟩, po' _ fs1 H1 fp own G1 s1 ⟨?_⟩ i1⟩
        have z := rs.imm hi
        subst z
        rw [reps_length rs]
        refine Walk.mono (walk_tup (K := X.K) (a := a) (xs := vs)) (fun H2 ⟨hf2, hm, hk⟩ => ?_) fun i H2 x H3 hi2 ⟨hf2, hm, hk⟩ ⟨e1, e2⟩ => ?_
        · exact sqt_keep sq hm
        · subst e1
          have rs2 : Reps C H3 ds vs [] := rs.keep (fun b hb => nomatch hb) hm
          obtain ⟨d, h1, h2⟩ := reps_imm_get rs2 hi e2
          exact ⟨.refl _, d, h1, h2⟩
      · rw [if_neg hi] at po'; exact po'.elim
    | _ => exact po.elim
end
end VS

set_option maxRecDepth 100000
namespace VS
open PySem L2 SeqAt PySem.Spec PyProof.Rows

/-! ### lending -/
section
variable {C C' : Ctx} {H : Hp}
/-- the callee's ctx: its entry is here, A is what it may change -/
structure Enter (C C' : Ctx) (H : Hp) : Prop where
  k : C'.K = C.K
  mg : C'.mg = C.mg
  h0 : C'.H0 = H
  lk : C'.Lk = C.Lk
  fr : Fr C H
  a : ∀ x ∈ C'.A, (x ∈ C.A ∨ C.H0 x = none) ∧ ∃ o, H x = some o ∧ Mutb o
theorem Enter.lnd {g a u fp} (E : Enter C C' H) (n : Nd C H g a u fp) (hd : ∀ b ∈ fp, b ∉ C'.A) : Nd C' H g.lend a u [] := by
  have z : ∀ {o w}, H a = some (.frz o w) → a ∉ C'.A := fun {o w} e hm => by
    obtain ⟨_, q, e2, mu⟩ := E.a a hm
    rw [e] at e2; cases e2; exact mu
  cases g with
  | m =>
    obtain ⟨e, rfl⟩ := n
    exact ⟨.inl ⟨by rw [E.h0]; exact .inl e, hd a (by simp)⟩, rfl⟩
  | l =>
    obtain ⟨⟨r, na⟩ | h, _⟩ := n
    · have nA : a ∉ C'.A := fun hm => by
        obtain ⟨q, o, e, mu⟩ := E.a a hm
        rcases q with q | q
        · exact na q
        · rcases r with r | ⟨ob, r⟩ <;> rw [q] at r <;> cases r
      refine ⟨.inl ⟨?_, nA⟩, rfl⟩
      rw [E.h0]
      rcases r with r | ⟨ob, r⟩
      · rcases E.fr a _ r na with q | ⟨_, _, ob, q⟩
        · exact .inl q
        · exact .inr ⟨ob, q⟩
      · rcases E.fr a _ r na with q | ⟨_, mu, ob2, q⟩
        · exact .inr ⟨ob, q⟩
        · exact mu.elim
    · exact ⟨.inr (by rw [E.k]; exact h), rfl⟩
  | f =>
    obtain ⟨⟨o, e⟩, x, _⟩ := n
    exact ⟨⟨o, e⟩, by rw [E.lk]; exact x, rfl⟩
  | k =>
    obtain ⟨⟨o, e⟩, x, _⟩ := n
    exact ⟨.inl ⟨by rw [E.h0]; exact .inr ⟨o, e⟩, z e⟩, rfl⟩
theorem Enter.nd {g a u fp} (E : Enter C C' H) (n : Nd C H g a u fp) : Nd C' H g a u fp := by
  cases g with
  | m => exact n
  | l => obtain ⟨h, e⟩ := n; subst e; exact E.lnd (g := .l) ⟨h, rfl⟩ fun _ z => nomatch z
  | f => obtain ⟨⟨o, e⟩, x, q⟩ := n; exact ⟨⟨o, e⟩, by rw [E.lk]; exact x, q⟩
  | k => obtain ⟨⟨o, e⟩, x, q⟩ := n; exact ⟨⟨o, e⟩, by rw [E.lk]; exact x, q⟩
theorem clsOf_eq {c Ca} (h : C'.mg = C.mg) (q : clsOf C c Ca) : clsOf C' c Ca := by unfold clsOf at *; rw [h]; exact q
mutual
theorem Rep.enter (E : Enter C C' H) : ∀ {d : D} {v : V} {fp : List Addr}, Rep C H d v fp → Rep C' H d v fp
  | .non, v, fp, h => h
  | .bl b, v, fp, h => h
  | .int i, v, fp, h => h
  | .str s, v, fp, h => h
  | .ty s, v, fp, h => h
  | .tup ds, v, fp, ⟨a, vs, e, t, r⟩ => ⟨a, vs, e, by rw [E.k]; exact t, Reps.enter E r⟩
  | .lst g ds, v, fp, ⟨a, vs, f1, f2, e, n, r, z, e2⟩ => ⟨a, vs, f1, f2, e, E.nd n, Reps.enter E r, z, e2⟩
  | .dct g ks ds, v, fp, ⟨a, vs, f1, f2, e, n, q, r, z, e2⟩ => ⟨a, vs, f1, f2, e, E.nd n, q, Reps.enter E r, z, e2⟩
  | .obj g c ns ds, v, fp, ⟨a, Ca, dx, fs, f1, f2, e, c1, n, q, r, z, e2⟩ => ⟨a, Ca, dx, fs, f1, f2, e, clsOf_eq E.mg c1, E.nd n, q, Reps.enter E r, z, e2⟩
theorem Reps.enter (E : Enter C C' H) : ∀ {ds : List D} {vs : List V} {fp : List Addr}, Reps C H ds vs fp → Reps C' H ds vs fp
  | [], vs, fp, h => h
  | d :: ds, vs, fp, ⟨v, vs', f1, f2, e, r, rs, e2⟩ => ⟨v, vs', f1, f2, e, Rep.enter E r, Reps.enter E rs, e2⟩
end
mutual
theorem Rep.lend (E : Enter C C' H) : ∀ {d : D} {v : V} {fp : List Addr}, Rep C H d v fp → (∀ b ∈ fp, b ∉ C'.A) → Rep C' H d.lend v []
  | .non, v, fp, h, _ => ⟨h.1, rfl⟩
  | .bl b, v, fp, h, _ => ⟨h.1, rfl⟩
  | .int i, v, fp, h, _ => ⟨h.1, rfl⟩
  | .str s, v, fp, h, _ => ⟨h.1, rfl⟩
  | .ty s, v, fp, h, _ => ⟨h.1, rfl⟩
  | .tup ds, v, fp, ⟨a, vs, e, t, r⟩, hd => ⟨a, vs, e, by rw [E.k]; exact t, Reps.lend E r hd⟩
  | .lst g ds, v, fp, ⟨a, vs, f1, f2, e, n, r, z, e2⟩, hd => ⟨a, vs, [], [], e, E.lnd n (fun b hb => hd b (by rw [e2]; exact List.mem_append_left _ hb)), Reps.lend E r (fun b hb => hd b (by rw [e2]; exact List.mem_append_right _ hb)), .inr rfl, rfl⟩
  | .dct g ks ds, v, fp, ⟨a, vs, f1, f2, e, n, q, r, z, e2⟩, hd => ⟨a, vs, [], [], e, E.lnd n (fun b hb => hd b (by rw [e2]; exact List.mem_append_left _ hb)), q, Reps.lend E r (fun b hb => hd b (by rw [e2]; exact List.mem_append_right _ hb)), .inr rfl, rfl⟩
  | .obj g c ns ds, v, fp, ⟨a, Ca, dx, fs, f1, f2, e, c1, n, q, r, z, e2⟩, hd => ⟨a, Ca, dx, fs, [], [], e, clsOf_eq E.mg c1, E.lnd n (fun b hb => hd b (by rw [e2]; exact List.mem_append_left _ hb)), q, Reps.lend E r (fun b hb => hd b (by rw [e2]; exact List.mem_append_right _ hb)), .inr rfl, rfl⟩
theorem Reps.lend (E : Enter C C' H) : ∀ {ds : List D} {vs : List V} {fp : List Addr}, Reps C H ds vs fp → (∀ b ∈ fp, b ∉ C'.A) → Reps C' H (lends ds) vs []
  | [], vs, fp, h, _ => ⟨h.1, rfl⟩
  | d :: ds, vs, fp, ⟨v, vs', f1, f2, e, r, rs, e2⟩, hd => ⟨v, vs', [], [], e, Rep.lend E r (fun b hb => hd b (by rw [e2]; exact List.mem_append_left _ hb)), Reps.lend E rs (fun b hb => hd b (by rw [e2]; exact List.mem_append_right _ hb)), rfl⟩
end
mutual
/-- what has nothing lent reads the same outside -/
theorem Rep.leave (hk : C'.K = C.K) (hm : C'.mg = C.mg) (hl : C'.Lk = C.Lk) : ∀ {d : D} {v : V} {fp : List Addr}, Rep C' H d v fp → d.nol = true → Rep C H d v fp
  | .non, v, fp, h, _ => h
  | .bl b, v, fp, h, _ => h
  | .int i, v, fp, h, _ => h
  | .str s, v, fp, h, _ => h
  | .ty s, v, fp, h, _ => h
  | .tup ds, v, fp, ⟨a, vs, e, t, r⟩, hn => ⟨a, vs, e, by rw [← hk]; exact t, Reps.leave hk hm hl r hn⟩
  | .lst g ds, v, fp, ⟨a, vs, f1, f2, e, n, r, z, e2⟩, hn => ⟨a, vs, f1, f2, e, nd_leave hl n (Bool.and_eq_true_iff.mp hn).1, Reps.leave hk hm hl r (Bool.and_eq_true_iff.mp hn).2, z, e2⟩
  | .dct g ks ds, v, fp, ⟨a, vs, f1, f2, e, n, q, r, z, e2⟩, hn => ⟨a, vs, f1, f2, e, nd_leave hl n (Bool.and_eq_true_iff.mp hn).1, q, Reps.leave hk hm hl r (Bool.and_eq_true_iff.mp hn).2, z, e2⟩
  | .obj g c ns ds, v, fp, ⟨a, Ca, dx, fs, f1, f2, e, c1, n, q, r, z, e2⟩, hn => ⟨a, Ca, dx, fs, f1, f2, e, clsOf_eq hm.symm c1, nd_leave hl n (Bool.and_eq_true_iff.mp hn).1, q, Reps.leave hk hm hl r (Bool.and_eq_true_iff.mp hn).2, z, e2⟩
theorem Reps.leave (hk : C'.K = C.K) (hm : C'.mg = C.mg) (hl : C'.Lk = C.Lk) : ∀ {ds : List D} {vs : List V} {fp : List Addr}, Reps C' H ds vs fp → nols ds = true → Reps C H ds vs fp
  | [], vs, fp, h, _ => h
  | d :: ds, vs, fp, ⟨v, vs', f1, f2, e, r, rs, e2⟩, hn => ⟨v, vs', f1, f2, e, Rep.leave hk hm hl r (Bool.and_eq_true_iff.mp hn).1, Reps.leave hk hm hl rs (Bool.and_eq_true_iff.mp hn).2, e2⟩
theorem nd_leave {g a u fp} (hl : C'.Lk = C.Lk) (n : Nd C' H g a u fp) (h : (g == .m || g == .f) = true) : Nd C H g a u fp := by
  cases g with
  | m => exact n
  | l => cases h
  | f => obtain ⟨⟨o, e⟩, x, q⟩ := n; exact ⟨⟨o, e⟩, by rw [← hl]; exact x, q⟩
  | k => cases h
end
end

/-! ### defs -/
inductive FR where
  | ok (r : D) (outs : List D)
  | ex (x : Exn) (outs : List D)
  | err
def outsOf : List Bool → Env → Option (List D)
  | [], _ => some []
  | true :: bs, some d :: env => (outsOf bs env).map (d :: ·)
  | false :: bs, _ :: env => outsOf bs env
  | _, _ => none
def fnEnd (io : List Bool) : O → FR
  | .nx env => match outsOf io env with
    | some os => .ok .non os
    | none => .err
  | .rt d env => match outsOf io env with
    | some os => .ok d os
    | none => .err
  | .ex x env => match outsOf io env with
    | some os => .ex x os
    | none => .err
  | _ => .err
def fnEnv (n : Nat) (ds : List D) : Env := ds.map some ++ List.replicate (n - ds.length) none
/-- a def with n names; io tells which of its parameters it may change -/
def fnRun (n : Nat) (io : List Bool) (c : CS) (ds : List D) : FR := if ds.length = io.length ∧ io.length ≤ n then fnEnd io (c (fnEnv n ds)) else .err

/-- arguments: the io ones owned, the others lent -/
def ArgR (C : Ctx) (H : Hp) : List Bool → List D → List V → FPs → Prop
  | [], ds, vs, fps => ds = [] ∧ vs = [] ∧ fps = []
  | b :: bs, ds, vs, fps => ∃ d ds' v vs' fp fps', ds = d :: ds' ∧ vs = v :: vs' ∧ fps = fp :: fps' ∧ Rep C H d v fp ∧ (b = true ∨ fp = []) ∧ ArgR C H bs ds' vs' fps'
/-- what the io ones are behind -/
def OutR (C : Ctx) (H : Hp) : List Bool → List D → List V → FPs → Prop
  | [], os, vs, fps => os = [] ∧ fps = []
  | true :: bs, os, vs, fps => ∃ o os' v vs' fp fps', os = o :: os' ∧ vs = v :: vs' ∧ fps = fp :: fps' ∧ Rep C H o v fp ∧ OutR C H bs os' vs' fps'
  | false :: bs, os, vs, fps => ∃ v vs', vs = v :: vs' ∧ OutR C H bs os vs' fps
def PostF (C : Ctx) (H : Hp) (io : List Bool) (vs : List V) (Q : VK) (E : XK) : FR → Prop
  | .ok r os => ∀ v H' fp fps, Fr C H' → Mono H H' → Rep C H' r v fp → OutR C H' io os vs fps → (fp ++ fps.flatten).Nodup → (∀ a ∈ fp ++ fps.flatten, a ∈ C.A ∨ H a = none) → Q v H'
  | .ex x os => ∀ cv dd H' fps, Fr C H' → Mono H H' → ExIs C x cv dd H' → OutR C H' io os vs fps → fps.flatten.Nodup → (∀ a ∈ fps.flatten, a ∈ C.A ∨ H a = none) → E cv dd H'
  | .err => False
/-- the promise of a def that comes to φ -/
def spF (K : PySem.W.Frag) (mg : Str → Option Value) (io : List Bool) (φ : List D → FR) : Sp := fun vs H Q E => ∃ (Lk : List Addr) (ds : List D) (fps : FPs),
  vs.length = io.length ∧ ArgR ⟨K, mg, H, fps.flatten, Lk⟩ H io ds vs fps ∧ fps.flatten.Nodup ∧ (∀ a ∈ Lk, ∃ ob u, H a = some (.frz ob u)) ∧ PostF ⟨K, mg, H, fps.flatten, Lk⟩ H io vs Q E (φ ds)

theorem fr_entry {C : Ctx} {H : Hp} (h : C.H0 = H) : Fr C H := fun a o e _ => .inl (by rw [← h]; exact e)
theorem ArgR.len {C H} : ∀ {io ds vs fps}, ArgR C H io ds vs fps → ds.length = io.length ∧ vs.length = io.length ∧ fps.length = io.length
  | [], ds, vs, fps, ⟨h1, h2, h3⟩ => by subst h1 h2 h3; exact ⟨rfl, rfl, rfl⟩
  | b :: bs, ds, vs, fps, ⟨d, ds', v, vs', fp, fps', h1, h2, h3, _, _, r⟩ => by
    subst h1 h2 h3
    obtain ⟨a1, a2, a3⟩ := ArgR.len r
    exact ⟨by simp [a1], by simp [a2], by simp [a3]⟩
theorem ArgR.get {C H} : ∀ {io ds vs fps} {i : Nat} {d : D}, ArgR C H io ds vs fps → ds[i]? = some d → ∃ v, vs[i]? = some v ∧ Rep C H d v (fps.getD i [])
  | [], ds, vs, fps, i, d, ⟨h1, h2, h3⟩, h => by subst h1; simp at h
  | b :: bs, ds, vs, fps, 0, d, ⟨d0, ds', v, vs', fp, fps', h1, h2, h3, r, _, _⟩, h => by
    subst h1 h2 h3
    simp at h; subst h
    exact ⟨v, by simp, by simpa using r⟩
  | b :: bs, ds, vs, fps, i + 1, d, ⟨d0, ds', v, vs', fp, fps', h1, h2, h3, _, _, r⟩, h => by
    subst h1 h2 h3
    obtain ⟨v', h1, h2⟩ := ArgR.get (i := i) r (by simpa using h)
    exact ⟨v', by simpa using h1, by simpa using h2⟩
theorem ArgR.trk {C H} : ∀ {io ds vs fps}, ArgR C H io ds vs fps → ∀ a ∈ fps.flatten, ∃ o, H a = some o ∧ Mutb o
  | [], ds, vs, fps, ⟨h1, h2, h3⟩ => by subst h3; intro a ha; simp at ha
  | b :: bs, ds, vs, fps, ⟨d0, ds', v, vs', fp, fps', h1, h2, h3, r, _, rs⟩ => by
    subst h3
    intro a ha
    rw [List.flatten_cons] at ha
    exact (List.mem_append.mp ha).elim (r.trk a) (ArgR.trk rs a)
theorem flat_rep (fps : FPs) (n : Nat) : (fps ++ List.replicate n []).flatten = fps.flatten := by
  rw [List.flatten_append]
  have : (List.replicate n ([] : List Addr)).flatten = [] := by
    rw [List.flatten_eq_nil_iff]; intro l hl; exact (List.mem_replicate.mp hl).2
  rw [this, List.append_nil]
/-- a def's entry -/
theorem good_start {C : Ctx} {H : Hp} {N : List Str} {io ds vs fps} (h0 : C.H0 = H) (hA : C.A = fps.flatten) (r : ArgR C H io ds vs fps) (nd : fps.flatten.Nodup) (hl : io.length ≤ N.length) (hk : ∀ a ∈ C.Lk, ∃ ob u, H a = some (.frz ob u)) :
    Good C (fps ++ List.replicate (N.length - fps.length) []) (fnEnv N.length ds) (L2.start N vs) H [] := by
  obtain ⟨l1, l2, l3⟩ := r.len
  refine ⟨?_, ?_, fun i d e => ?_, ?_, fun a ha => ?_, fun a ha => ?_, fr_entry h0, hk⟩
  · simp [fnEnv, L2.start]; omega
  · simp [L2.start]; omega
  · unfold fnEnv at e
    have hi : i < ds.length := by
      by_cases hi : i < ds.length
      · exact hi
      · rw [List.getElem?_append_right (by simp; omega)] at e
        rw [List.getElem?_replicate] at e
        split at e <;> simp at e
    rw [List.getElem?_append_left (by simpa using hi), List.getElem?_map] at e
    have e' : ds[i]? = some d := by
      cases q : ds[i]? with
      | none => rw [q] at e; simp at e
      | some x => rw [q] at e; simp at e; rw [e]
    obtain ⟨v, h1, h2⟩ := r.get e'
    refine ⟨v, ?_, ?_⟩
    · unfold L2.start
      rw [List.getElem?_append_left (by simp; omega), List.getElem?_map, h1]; rfl
    · have : (fps ++ List.replicate (N.length - fps.length) []).getD i [] = fps.getD i [] := by
        rw [List.getD_eq_getElem?_getD, List.getD_eq_getElem?_getD, List.getElem?_append_left (by omega)]
      rw [this]; exact h2
  · rw [flat_rep, List.append_nil]; exact nd
  · rw [flat_rep, List.append_nil] at ha; exact .inl (by rw [hA]; exact ha)
  · rw [flat_rep, List.append_nil] at ha; exact r.trk a ha
/-- the slots of the io parameters, from slot n on -/
def ioSlots : Nat → List Bool → List Nat
  | _, [] => []
  | n, true :: bs => n :: ioSlots (n + 1) bs
  | n, false :: bs => ioSlots (n + 1) bs
theorem fl_sub : ∀ {l : FPs} {i : Nat} {x : List Addr}, l[i]? = some x → x.Sublist l.flatten
  | f :: l, 0, x, h => by simp at h; subst h; simp [List.flatten_cons]
  | f :: l, i + 1, x, h => by
    rw [List.flatten_cons]
    exact (fl_sub (l := l) (i := i) (by simpa using h)).trans (List.sublist_append_right _ _)
theorem outs_at {C : Ctx} {H' : Hp} {fs : FPs} {env : Env} {σ : L2.St} (hrep : ∀ i d, env[i]? = some (some d) → ∃ v, σ[i]? = some (some v) ∧ Rep C H' d v (fs.getD i [])) : ∀ {n : Nat} {io : List Bool} {os : List D} {vs : List V},
    outsOf io (env.drop n) = some os → vs.length = io.length → (∀ j ∈ ioSlots n io, σ[j]? = (vs[j - n]?).map some) → OutR C H' io os vs ((ioSlots n io).map fun j => fs.getD j [])
  | n, [], os, vs, h, hl, hv => by simp [outsOf] at h; exact ⟨h.symm ▸ rfl, rfl⟩
  | n, true :: bs, os, vs, h, hl, hv => by
    cases vs with
    | nil => simp at hl
    | cons v vs =>
      cases q : env.drop n with
      | nil => rw [q] at h; simp [outsOf] at h
      | cons od rest =>
        rw [q] at h
        cases od with
        | none => simp [outsOf] at h
        | some d =>
          have hd : env[n]? = some (some d) := by
            have := congrArg List.head? q
            simpa [List.head?_drop] using this
          have hrest : rest = env.drop (n + 1) := by
            have := congrArg List.tail q
            simpa [List.tail_drop] using this.symm
          simp only [outsOf] at h
          obtain ⟨os', h1, rfl⟩ := Option.map_eq_some_iff.mp h
          rw [hrest] at h1
          obtain ⟨w, e1, r⟩ := hrep n d hd
          have := hv n (by simp [ioSlots])
          simp at this
          rw [this] at e1; cases e1
          refine ⟨d, os', v, vs, _, _, rfl, rfl, rfl, r, outs_at hrep h1 (by simpa using hl) fun j hj => ?_⟩
          have hj1 : n + 1 ≤ j := by
            have key : ∀ (bs : List Bool) (m : Nat), ∀ j ∈ ioSlots m bs, m ≤ j := by
              intro bs
              induction bs with
              | nil => intro m j h; simp [ioSlots] at h
              | cons b bs ih =>
                intro m j h
                cases b with
                | true =>
                  simp only [ioSlots, List.mem_cons] at h
                  rcases h with h | h
                  · omega
                  · have := ih _ _ h; omega
                | false => simp only [ioSlots] at h; have := ih _ _ h; omega
            exact key bs (n + 1) j hj
          have := hv j (by simp [ioSlots, hj])
          rw [this]
          have e : j - n = (j - (n + 1)) + 1 := by omega
          rw [e]; simp
  | n, false :: bs, os, vs, h, hl, hv => by
    cases vs with
    | nil => simp at hl
    | cons v vs =>
      cases q : env.drop n with
      | nil => rw [q] at h; simp [outsOf] at h
      | cons od rest =>
        rw [q] at h
        have hrest : rest = env.drop (n + 1) := by
          have := congrArg List.tail q
          simpa [List.tail_drop] using this.symm
        simp only [outsOf] at h
        rw [hrest] at h
        refine ⟨v, vs, rfl, outs_at hrep h (by simpa using hl) fun j hj => ?_⟩
        have hj1 : n + 1 ≤ j := by
          have key : ∀ (bs : List Bool) (m : Nat), ∀ j ∈ ioSlots m bs, m ≤ j := by
            intro bs
            induction bs with
            | nil => intro m j h; simp [ioSlots] at h
            | cons b bs ih =>
              intro m j h
              cases b with
              | true =>
                simp only [ioSlots, List.mem_cons] at h
                rcases h with h | h
                · omega
                · have := ih _ _ h; omega
              | false => simp only [ioSlots] at h; have := ih _ _ h; omega
          exact key bs (n + 1) j hj
        have := hv j (by simp [ioSlots, hj])
        rw [this]
        have e : j - n = (j - (n + 1)) + 1 := by omega
        rw [e]; simp
theorem ioSlots_lt : ∀ (io : List Bool) (n : Nat), ∀ j ∈ ioSlots n io, n ≤ j ∧ j < n + io.length
  | [], n => by intro j h; simp [ioSlots] at h
  | true :: bs, n => by
    intro j h
    simp only [ioSlots, List.mem_cons] at h
    rcases h with h | h
    · simp; omega
    · have := ioSlots_lt bs _ _ h; simp; omega
  | false :: bs, n => by
    intro j h
    simp only [ioSlots] at h
    have := ioSlots_lt bs _ _ h; simp; omega
theorem ioSlots_sub : ∀ (io : List Bool) (n : Nat) (fs : FPs), (((ioSlots n io).map fun j => fs.getD j []).flatten).Sublist ((fs.drop n).flatten)
  | [], n, fs => by simp [ioSlots]
  | true :: bs, n, fs => by
    simp only [ioSlots, List.map_cons, List.flatten_cons]
    cases q : fs.drop n with
    | nil =>
      have hn : fs.length ≤ n := by simpa using q
      have : fs.getD n [] = [] := by rw [List.getD_eq_getElem?_getD, List.getElem?_eq_none hn]; rfl
      rw [this, List.nil_append]
      have := ioSlots_sub bs (n + 1) fs
      rw [List.drop_eq_nil_of_le (by omega)] at this
      exact this
    | cons f r =>
      have e1 : fs.getD n [] = f := by
        have := congrArg List.head? q
        rw [List.head?_drop] at this
        rw [List.getD_eq_getElem?_getD, this]; rfl
      have e2 : fs.drop (n + 1) = r := by
        have := congrArg List.tail q
        simpa [List.tail_drop] using this
      rw [e1, List.flatten_cons]
      have := ioSlots_sub bs (n + 1) fs
      rw [e2] at this
      exact (List.Sublist.refl f).append this
  | false :: bs, n, fs => by
    simp only [ioSlots]
    refine (ioSlots_sub bs (n + 1) fs).trans ?_
    cases q : fs.drop n with
    | nil =>
      have hn : fs.length ≤ n := by simpa using q
      rw [List.drop_eq_nil_of_le (by omega)]; simp
    | cons f r =>
      have e2 : fs.drop (n + 1) = r := by
        have := congrArg List.tail q
        simpa [List.tail_drop] using this
      rw [e2, List.flatten_cons]
      exact List.sublist_append_right _ _

/-- a def comes to fnRun of its body -/
theorem fn_ok {P : Program} {w : World} {K : PySem.W.Frag} {mg : Str → Option Value} {base : Heap} {x qual : Str} {st : Stmt} {f : Addr} {fd : FuncData} {N ps : List Str} {k : Nat} {io : List Bool} {c : CS} {M Vs : List Nat}
    (F : Fun K x qual st f fd) (S : FnScope N ps (defScope st)) (hio : io.length = ps.length) (hv : djB (ioSlots 0 io) Vs = true)
    (hb : ∀ (cdv : Value) (A : Around) (outer : List PySem.Env) (s : Shared) (H : Hp) (E : XK), Room k (A.deeper (envOfC qual (defScope st) s.heap.objs.size f cdv)) →
      SSs (cxOf (L2.CX P w) P w K mg base N qual (defScope st) f cdv A outer s H E) (fun cls d _ H => E cls d H) M Vs (defBody st) c) :
    FnOk P w K mg base (L2.CX P w) (k + 1) f fd ps (spF K mg io (fnRun N.length io c)) := by
  refine F.okX S (fun vs H Q E h => by obtain ⟨Lk, ds, fps, hl, _⟩ := h; rw [hl, hio]) fun cdv A outer s H vs Q E hr h => ?_
  obtain ⟨Lk, ds, fps, hl, hA, nd, hk, po⟩ := h
  obtain ⟨t, p, q⟩ := (hb cdv A outer s H E hr).go
  refine ⟨t, p, ?_⟩
  obtain ⟨l1, l2, l3⟩ := hA.len
  have hN : io.length ≤ N.length := by
    have := congrArg List.length S.pre
    rw [List.length_take] at this
    omega
  have G := good_start (C := ⟨K, mg, H, fps.flatten, Lk⟩) (N := N) rfl rfl hA nd hN hk
  unfold fnRun at po
  rw [if_pos ⟨l1, hN⟩] at po
  have vals : ∀ {σ' : L2.St}, (∀ i, i ∉ Vs → σ'[i]? = (L2.start N vs)[i]?) → ∀ j ∈ ioSlots 0 io, σ'[j]? = (vs[j - 0]?).map some := fun {σ'} h j hj => by
    rw [h j (djB_ok hv j hj), Nat.sub_zero]
    have := ioSlots_lt io 0 j hj
    unfold L2.start
    rw [List.getElem?_append_left (by simp; omega), List.getElem?_map]
  have own : ∀ {fs' env' σ' H' fp}, Good ⟨K, mg, H, fps.flatten, Lk⟩ fs' env' σ' H' (fp ++ []) → (fp ++ ((ioSlots 0 io).map fun j => fs'.getD j []).flatten).Nodup ∧ ∀ a ∈ fp ++ ((ioSlots 0 io).map fun j => fs'.getD j []).flatten, a ∈ fps.flatten ∨ H a = none := fun {fs' env' σ' H' fp} G' => by
    have sub := ioSlots_sub io 0 fs'
    rw [List.drop_zero] at sub
    have p1 : (fp ++ fs'.flatten).Perm (fs'.flatten ++ (fp ++ [])) := by rw [List.append_nil]; exact List.perm_append_comm
    have s2 := (List.Sublist.refl fp).append sub
    exact ⟨(p1.nodup_iff.mpr G'.nd).sublist s2, fun a ha => G'.own a (p1.mem_iff.mp (s2.subset ha))⟩
  refine q ⟨K, mg, H, fps.flatten, Lk⟩ _ (fnEnv N.length ds) (L2.start N vs) H [] _ ⟨rfl, rfl⟩ G ?_
  cases eo : c (fnEnv N.length ds) with
  | nx env' =>
    rw [eo] at po
    intro fs' σ' H' G' s'
    simp only [fnEnd] at po
    cases e2 : outsOf io env' with
    | none => rw [e2] at po; exact po.elim
    | some os =>
      rw [e2] at po
      obtain ⟨o1, o2⟩ := own (fp := []) (by simpa using G')
      exact po .non H' [] _ G'.fr s'.s.m ⟨rfl, rfl⟩ (outs_at (n := 0) G'.rep (by rw [List.drop_zero]; exact e2) hl (vals s'.v)) o1 o2
  | rt d env' =>
    rw [eo] at po
    intro v fs' σ' H' fp G' s' r
    simp only [fnEnd] at po
    cases e2 : outsOf io env' with
    | none => rw [e2] at po; exact po.elim
    | some os =>
      rw [e2] at po
      obtain ⟨o1, o2⟩ := own G'
      exact po v H' fp _ G'.fr s'.s.m r (outs_at (n := 0) G'.rep (by rw [List.drop_zero]; exact e2) hl (vals s'.v)) o1 o2
  | ex x env' =>
    rw [eo] at po
    intro cv dd fs' σ' H' G' s' hx
    simp only [fnEnd] at po
    cases e2 : outsOf io env' with
    | none => rw [e2] at po; exact po.elim
    | some os =>
      rw [e2] at po
      obtain ⟨o1, o2⟩ := own (fp := []) (by simpa using G')
      exact po cv dd H' _ G'.fr s'.s.m hx (outs_at (n := 0) G'.rep (by rw [List.drop_zero]; exact e2) hl (vals s'.v)) (by simpa using o1) (by simpa using o2)
  | bk env' => rw [eo] at po; exact po.elim
  | ct env' => rw [eo] at po; exact po.elim
  | err => rw [eo] at po; exact po.elim
end VS

set_option maxRecDepth 100000
namespace VS
open PySem L2 SeqAt

/-- an argument: lent, or owned (and put back into a slot behind the call) -/
inductive AV where
  | ro (d : D)
  | ow (d : D) (wb : Option Nat)
def AV.d : AV → D
  | .ro d => d.lend
  | .ow d _ => d
def AV.io : AV → Bool
  | .ro _ => false
  | .ow _ _ => true
def wbOk (σ : St) (Ms : List Nat) (v : V) : Option Nat → Prop
  | none => True
  | some i => σ[i]? = some (some v) ∧ i ∈ Ms
def AOk (C : Ctx) (H : Hp) (σ : St) (Ms Rs : List Nat) (fs : FPs) (ownr : List Addr) : List AV → List V → FPs → Prop
  | [], vs, fps => vs = [] ∧ fps = []
  | .ro d :: as, vs, fps => ∃ v vs' fp fps', vs = v :: vs' ∧ fps = [] :: fps' ∧ Rep C H d v fp ∧ In Rs ownr fs fp ∧ AOk C H σ Ms Rs fs ownr as vs' fps'
  | .ow d wb :: as, vs, fps => ∃ v vs' fp fps', vs = v :: vs' ∧ fps = fp :: fps' ∧ Rep C H d v fp ∧ wbOk σ Ms v wb ∧ AOk C H σ Ms Rs fs ownr as vs' fps'
def PostR (W : WX) (C : Ctx) (M Rs : List Nat) (tf : List Addr) (fs : FPs) (env : Env) (σ : St) (H : Hp) (Q : List V → Hp → Prop) : R (List AV) → Prop
  | .ok avs env' => ∀ vs fs' H' fps ownr, Good C fs' env' σ H' (fps.flatten ++ (ownr ++ tf)) → Step M tf fs env H fs' env' H' → AOk C H' σ M Rs fs' ownr avs vs fps → Q vs H'
  | .ex x env' => ∀ cv dd fs' H', Good C fs' env' σ H' tf → Step M tf fs env H fs' env' H' → ExIs C x cv dd H' → W cv dd σ H'
  | .err => False
structure SR (X : Cx) (W : WX) (M Rs : List Nat) (es : List Expr) (c : Env → R (List AV)) : Prop where
  go : ∃ t, PA X es t ∧ ∀ C fs env σ H tf Q, C.At X → Good C fs env σ H tf → PostR W C M Rs tf fs env σ H Q (c env) → t σ H Q

section
variable {X : Cx} {W : WX} {M M1 M2 M3 V1 V2 V3 Rs R1 R2 R3 : List Nat} {e a b c tg : Expr} {es : List Expr} {ca cb cc : CE} {pos p : Pos} {cr : Env → R (List AV)}
variable {pins : List (Addr × Obj)} {σ : St} {H H1 H2 : Hp} {s : Shared} {C C' : Ctx} {fs fs1 fs2 : FPs} {env env1 env2 : Env} {tf tf' own : List Addr}
theorem Good.perm (G : Good C fs env σ H tf) (h : tf'.Perm tf) : Good C fs env σ H tf' := by
  have p := h.append_left fs.flatten
  exact ⟨G.le, G.lf, G.rep, p.nodup_iff.mpr G.nd, fun a ha => G.own a (p.mem_iff.mp ha), fun a ha => G.trk a (p.mem_iff.mp ha), G.fr, G.lk⟩
theorem wbOk.mono {v} {M1 M2 : List Nat} (h : ∀ i ∈ M1, i ∈ M2) : ∀ {wb}, wbOk σ M1 v wb → wbOk σ M2 v wb
  | none, _ => trivial
  | some i, ⟨a, b⟩ => ⟨a, h i b⟩
theorem AOk.mono {ownr ownr'} (h : ∀ i ∈ M1, i ∈ M2) (hr : ∀ i ∈ R1, i ∈ R2) (ho : ∀ a ∈ ownr, a ∈ ownr') : ∀ {avs vs fps}, AOk C H σ M1 R1 fs ownr avs vs fps → AOk C H σ M2 R2 fs ownr' avs vs fps
  | [], vs, fps, x => x
  | .ro d :: as, vs, fps, ⟨v, vs', fp, fps', e1, e2, r, i, x⟩ => ⟨v, vs', fp, fps', e1, e2, r, i.mono hr ho, AOk.mono h hr ho x⟩
  | .ow d wb :: as, vs, fps, ⟨v, vs', fp, fps', e1, e2, r, i, x⟩ => ⟨v, vs', fp, fps', e1, e2, r, i.mono h, AOk.mono h hr ho x⟩
def aNil : Env → R (List AV) := fun env => .ok [] env
theorem sr_nil : SR X W [] [] [] aNil := by
  refine ⟨tNil, pa_nil, fun C fs env σ H tf Q hC G po => ?_⟩
  exact po [] fs H [] [] (by simpa using G) .refl ⟨rfl, rfl⟩
def aRo (ca : CE) (cr : Env → R (List AV)) : Env → R (List AV) := fun env => (ca env).bind fun d env => (cr env).bind fun as env => .ok (.ro d :: as) env
def aOw (ca : CE) (wb : Option Nat) (cr : Env → R (List AV)) : Env → R (List AV) := fun env => (ca env).bind fun d env => (cr env).bind fun as env => .ok (.ow d wb :: as) env
theorem sr_ro (ha : SB X W M1 R1 a ca) (hr : SR X W M2 R2 es cr) (hd : djB R1 M2 = true := by decide) (hs : starEach (a :: es) X.env = (false, eval a X.env) :: starEach es X.env := by rfl) : SR X W (M1 ++ M2) (R1 ++ R2) (a :: es) (aRo ca cr) := by
  obtain ⟨t, p, q⟩ := ha.go
  obtain ⟨t2, p2, q2⟩ := hr.go
  refine ⟨tCons t t2, pa_cons p p2 hs, fun C fs env σ H tf Q hC G po => ?_⟩
  refine q C fs env σ H tf _ hC G ?_
  unfold aRo at po
  cases e1 : ca env with
  | err => rw [e1] at po; exact po
  | ex x env' => rw [e1] at po; exact fun cv dd fs' H' G' s => po cv dd fs' H' G' (s.weak mem_l fun _ z => z)
  | ok d env1 =>
    rw [e1] at po
    intro v fs1 H1 fp1 own1 G1 s1 r1 i1
    refine q2 C fs1 env1 σ H1 (own1 ++ tf) _ hC G1 ?_
    have po' : PostR W C (M1 ++ M2) (R1 ++ R2) tf fs env σ H Q ((cr env1).bind fun as env => .ok (.ro d :: as) env) := po
    cases e2 : cr env1 with
    | err => rw [e2] at po'; exact po'
    | ex x env' => rw [e2] at po'; exact fun cv dd fs' H' G' s => po' cv dd fs' H' G'.drop (s1.trans (s.weak (fun _ z => z) fun x hx => List.mem_append_right _ hx))
    | ok as env2 =>
      rw [e2] at po'
      intro vs fs2 H2 fps ownr G2 s2 r2
      have po2 : ∀ vs fs' H' fps ownr, Good C fs' env2 σ H' (fps.flatten ++ (ownr ++ tf)) → Step (M1 ++ M2) tf fs env H fs' env2 H' → AOk C H' σ (M1 ++ M2) (R1 ++ R2) fs' ownr (.ro d :: as) vs fps → Q vs H' := po'
      refine po2 (v :: vs) fs2 H2 ([] :: fps) (ownr ++ own1) (by simpa using G2) (s1.trans (s2.weak (fun _ z => z) fun x hx => List.mem_append_right _ hx)) ?_
      exact ⟨v, vs, fp1, fps, rfl, rfl, r1.keep (i1.keep s2 (djB_ok hd)) s2.m, (i1.step (own2 := ownr) s2 (djB_ok hd)).mono mem_l fun _ z => z, r2.mono mem_r mem_r fun _ z => List.mem_append_left _ z⟩
theorem ow_go {t : TE} {t2 : TA} {wb : Option Nat} (hs : starEach (a :: es) X.env = (false, eval a X.env) :: starEach es X.env) (p : PE X a t) (p2 : PA X es t2)
    (q : ∀ C fs env σ H tf Q, C.At X → Good C fs env σ H tf → (match ca env with
      | .ok d env' => ∀ v fs' H' fp, Good C fs' env' σ H' (fp ++ tf) → Step M1 tf fs env H fs' env' H' → Rep C H' d v fp → wbOk σ M1 v wb → Q v H'
      | .ex x env' => ∀ cv dd fs' H', Good C fs' env' σ H' tf → Step M1 tf fs env H fs' env' H' → ExIs C x cv dd H' → W cv dd σ H'
      | .err => False) → t σ H Q)
    (q2 : ∀ C fs env σ H tf Q, C.At X → Good C fs env σ H tf → PostR W C M2 R2 tf fs env σ H Q (cr env) → t2 σ H Q) : SR X W (M1 ++ M2) R2 (a :: es) (aOw ca wb cr) := by
  refine ⟨tCons t t2, pa_cons p p2 hs, fun C fs env σ H tf Q hC G po => ?_⟩
  refine q C fs env σ H tf _ hC G ?_
  unfold aOw at po
  cases e1 : ca env with
  | err => rw [e1] at po; exact po
  | ex x env' => rw [e1] at po; exact fun cv dd fs' H' G' s => po cv dd fs' H' G' (s.weak mem_l fun _ z => z)
  | ok d env1 =>
    rw [e1] at po
    intro v fs1 H1 fp1 G1 s1 r1 w1
    refine q2 C fs1 env1 σ H1 (fp1 ++ tf) _ hC G1 ?_
    have po' : PostR W C (M1 ++ M2) R2 tf fs env σ H Q ((cr env1).bind fun as env => .ok (.ow d wb :: as) env) := po
    cases e2 : cr env1 with
    | err => rw [e2] at po'; exact po'
    | ex x env' => rw [e2] at po'; exact fun cv dd fs' H' G' s => po' cv dd fs' H' G'.drop (s1.trans (s.weak (fun _ z => z) fun x hx => List.mem_append_right _ hx))
    | ok as env2 =>
      rw [e2] at po'
      intro vs fs2 H2 fps ownr G2 s2 r2
      have po2 : ∀ vs fs' H' fps ownr, Good C fs' env2 σ H' (fps.flatten ++ (ownr ++ tf)) → Step (M1 ++ M2) tf fs env H fs' env2 H' → AOk C H' σ (M1 ++ M2) R2 fs' ownr (.ow d wb :: as) vs fps → Q vs H' := po'
      refine po2 (v :: vs) fs2 H2 (fp1 :: fps) ownr (G2.perm ?_) (s1.trans (s2.weak (fun _ z => z) fun x hx => List.mem_append_right _ hx)) ?_
      · rw [List.flatten_cons]
        have : (fps.flatten ++ (ownr ++ (fp1 ++ tf))).Perm (fp1 ++ (fps.flatten ++ (ownr ++ tf))) := by
          exact ((List.perm_append_comm_assoc _ _ _).append_left _).trans (List.perm_append_comm_assoc _ _ _)
        rw [List.append_assoc]; exact this.symm
      · exact ⟨v, vs, fp1, fps, rfl, rfl, r1.keep (fun x hx => s2.t x (List.mem_append_left _ hx)) s2.m, w1.mono mem_l, r2.mono mem_r (fun _ z => z) fun _ z => z⟩
theorem sr_ow (ha : SO X W M1 a ca) (hr : SR X W M2 R2 es cr) (hs : starEach (a :: es) X.env = (false, eval a X.env) :: starEach es X.env := by rfl) : SR X W (M1 ++ M2) R2 (a :: es) (aOw ca none cr) := by
  obtain ⟨t, p, q⟩ := ha.go
  obtain ⟨t2, p2, q2⟩ := hr.go
  refine ow_go hs p p2 (fun C fs env σ H tf Q hC G po => q C fs env σ H tf Q hC G ?_) q2
  cases e1 : ca env with
  | err => rw [e1] at po; exact po
  | ex x env' => rw [e1] at po; exact po
  | ok d env1 => rw [e1] at po; exact fun v fs' H' fp G' s r => po v fs' H' fp G' s r trivial
/-- a name handed in that the callee may change -/
theorem sr_io (i : Nat) {x : Str} (hr : SR X W M2 R2 es cr) (hN : X.N[i]? = some x := by rfl) (hv : Vis X.env.scope x := by first | exact Or.inl rfl | exact Or.inr (Or.inl rfl) | exact Or.inr (Or.inr rfl)) (hd : (x == ("__debug__" : Str)) = false := by decide)
    (hcd : (x == ("__classdict__" : Str)) = false := by decide) (hs : starEach (.Name x pos :: es) X.env = (false, eval (.Name x pos) X.env) :: starEach es X.env := by rfl) : SR X W ([i] ++ M2) R2 (.Name x pos :: es) (aOw (cMv i) (some i) cr) := by
  obtain ⟨t2, p2, q2⟩ := hr.go
  refine ow_go hs (pe_var hN hv hd hcd) p2 (fun C fs env σ H tf Q hC G po => ?_) q2
  cases e1 : cMv i env with
  | err => rw [e1] at po; exact po.elim
  | ex x env' => unfold cMv at e1; split at e1 <;> cases e1
  | ok d env1 =>
    rw [e1] at po
    unfold cMv at e1
    split at e1
    · rename_i d' e2
      cases e1
      obtain ⟨v, e3, r⟩ := G.rep i d e2
      refine ⟨v, e3, po v (fs.set i []) H _ (G.mv e2) ⟨fun _ _ => rfl, fun j hj => ?_, fun j hj => ?_, fun _ _ _ _ => rfl, .refl H⟩ r ⟨e3, by simp⟩⟩
      · rw [getD_set fs i j [] (G.lt e2), if_neg (by simpa using hj)]
      · rw [List.getElem?_set, if_neg (by intro z; subst z; simp at hj)]
    · cases e1

/-! ### behind a call -/
def putBack : List AV → List D → Env → Option Env
  | [], [], env => some env
  | .ro _ :: as, os, env => putBack as os env
  | .ow _ (some i) :: as, o :: os, env => putBack as os (env.set i (some o))
  | .ow _ none :: as, _ :: os, env => putBack as os env
  | _, _, _ => none
theorem put_back {Ms Rs : List Nat} {ownr : List Addr} {fsA : FPs} {HA : Hp} (hk : C'.K = C.K) (hm : C'.mg = C.mg) (hl : C'.Lk = C.Lk) : ∀ {avs : List AV} {vs : List V} {fpsA : FPs} {os : List D} {fps : FPs} {fs : FPs} {env env' : Env},
    AOk C HA σ Ms Rs fsA ownr avs vs fpsA → OutR C' H (avs.map AV.io) os vs fps → nols os = true → putBack avs os env = some env' → Good C fs env σ H (fps.flatten ++ tf) → ∃ fs', Good C fs' env' σ H tf ∧ Step Ms tf fs env H fs' env' H
  | [], vs, fpsA, os, fps, fs, env, env', _, ⟨h1, h2⟩, _, hp, G => by
    subst h1 h2
    simp [putBack] at hp; subst hp
    exact ⟨fs, by simpa using G, .refl⟩
  | .ro d :: as, vs, fpsA, os, fps, fs, env, env', ⟨v, vs', fp, fps', e1, e2, r, i, x⟩, ho, hn, hp, G => by
    subst e1
    obtain ⟨w, ws, e3, ho⟩ := ho
    cases e3
    simp only [putBack] at hp
    exact put_back hk hm hl x ho hn hp G
  | .ow d none :: as, vs, fpsA, os, fps, fs, env, env', ⟨v, vs', fp, fps', e1, e2, r, i, x⟩, ho, hn, hp, G => by
    subst e1
    obtain ⟨o, os', w, ws, f, fps2, e3, e4, e5, ro, ho⟩ := ho
    cases e4
    subst e3 e5
    simp only [putBack] at hp
    have hn := Bool.and_eq_true_iff.mp hn
    refine put_back hk hm hl x ho hn.2 hp (G.sub ?_)
    rw [List.flatten_cons, List.append_assoc]; exact List.sublist_append_right _ _
  | .ow d (some j) :: as, vs, fpsA, os, fps, fs, env, env', ⟨v, vs', fp, fps', e1, e2, r, i, x⟩, ho, hn, hp, G => by
    subst e1
    obtain ⟨o, os', w, ws, f, fps2, e3, e4, e5, ro, ho⟩ := ho
    cases e4
    subst e3 e5
    simp only [putBack] at hp
    have hn := Bool.and_eq_true_iff.mp hn
    rw [List.flatten_cons, List.append_assoc] at G
    have ro' := ro.leave hk hm hl hn.1
    have G2 := G.put (i := j) ro'
    have es : σ.set j (some v) = σ := by
      obtain ⟨h1, h2⟩ := List.getElem?_eq_some_iff.mp i.1
      conv => rhs; rw [← List.set_getElem_self (as := σ) (i := j) h1]
      rw [h2]
    rw [es] at G2
    obtain ⟨fs', G3, s3⟩ := put_back hk hm hl x ho hn.2 hp G2
    have s2 := Step.put (i := j) (d := o) G
    refine ⟨fs', G3, ((s2.weak (M' := Ms) (tf' := tf) (fun q hq => ?_) fun x hx => List.mem_append_right _ hx).trans s3).weak (fun q hq => (List.mem_append.mp hq).elim id id) fun _ z => z⟩
    simp at hq; subst hq; exact i.2
theorem good_after {A' : List Addr} (G : Good C fs env σ H1 (A' ++ tf)) (h0 : C'.H0 = H1) (hA : C'.A = A') (hl : C'.Lk = C.Lk) (f : Fr C' H2) (m : Mono H1 H2) : Good C fs env σ H2 tf ∧ (∀ a ∈ fs.flatten ++ tf, H2 a = H1 a) := by
  have keep : ∀ a ∈ fs.flatten ++ tf, H2 a = H1 a := fun a ha => by
    have ha' : a ∈ fs.flatten ++ (A' ++ tf) := by
      rcases List.mem_append.mp ha with z | z
      · exact List.mem_append_left _ z
      · exact List.mem_append_right _ (List.mem_append_right _ z)
    obtain ⟨o, e, mu⟩ := G.trk a ha'
    have nA : a ∉ A' := fun hm => by
      have p : (fs.flatten ++ (A' ++ tf)).Perm (A' ++ (fs.flatten ++ tf)) := by
        rw [← List.append_assoc, ← List.append_assoc]; exact List.perm_append_comm.append_right _
      exact (List.nodup_append.mp (p.nodup_iff.mp G.nd)).2.2 a hm a ha rfl
    rcases f a o (by rw [h0]; exact e) (by rw [hA]; exact nA) with q | ⟨q1, _, ob, q⟩
    · rw [q, e]
    · obtain ⟨ob2, u, z⟩ := G.lk a (by rw [← hl]; exact q1)
      rw [e] at z; cases z; exact mu.elim
  refine ⟨⟨G.le, G.lf, fun i d e => ?_, ?_, fun a ha => G.own a ?_, fun a ha => ?_, fun a o e na => ?_, fun a ha => ?_⟩, keep⟩
  · obtain ⟨v, e1, r⟩ := G.rep i d e
    exact ⟨v, e1, r.keep (fun a ha => keep a (List.mem_append_left _ (mem_flat ha))) m⟩
  · exact G.nd.sublist ((List.Sublist.refl _).append (List.sublist_append_right _ _))
  · rcases List.mem_append.mp ha with z | z
    · exact List.mem_append_left _ z
    · exact List.mem_append_right _ (List.mem_append_right _ z)
  · rw [keep a ha]
    refine G.trk a ?_
    rcases List.mem_append.mp ha with z | z
    · exact List.mem_append_left _ z
    · exact List.mem_append_right _ (List.mem_append_right _ z)
  · have nA : a ∉ A' := fun hm => by
      rcases G.own a (List.mem_append_right _ (List.mem_append_left _ hm)) with q | q
      · exact na q
      · rw [e] at q; cases q
    rcases G.fr a o e na with q | ⟨q1, q2, ob, q⟩
    · rcases f a o (by rw [h0]; exact q) (by rw [hA]; exact nA) with z | ⟨z1, z2, z3⟩
      · exact .inl z
      · exact .inr ⟨by rw [← hl]; exact z1, z2, z3⟩
    · exact .inr ⟨q1, q2, ob, m.z _ _ _ q⟩
  · obtain ⟨ob, u, e⟩ := G.lk a ha
    exact ⟨ob, u, m.z _ _ _ e⟩
/-- new nodes, and those handed back, come to what is held -/
theorem good_come {A' fpn : List Addr} (G1 : Good C fs env σ H1 (A' ++ tf)) (G : Good C fs env σ H2 tf) (nd : fpn.Nodup) (hw : ∀ a ∈ fpn, a ∈ A' ∨ H1 a = none) (tk : ∀ a ∈ fpn, ∃ o, H2 a = some o ∧ Mutb o) : Good C fs env σ H2 (fpn ++ tf) := by
  have p : (fs.flatten ++ (fpn ++ tf)).Perm (fpn ++ (fs.flatten ++ tf)) := by
    rw [← List.append_assoc, ← List.append_assoc]; exact List.perm_append_comm.append_right _
  have p1 : (fs.flatten ++ (A' ++ tf)).Perm (A' ++ (fs.flatten ++ tf)) := by
    rw [← List.append_assoc, ← List.append_assoc]; exact List.perm_append_comm.append_right _
  refine ⟨G.le, G.lf, G.rep, p.nodup_iff.mpr (List.nodup_append.mpr ⟨nd, G.nd, fun a ha b hb e => ?_⟩), fun a ha => ?_, fun a ha => ?_, G.fr, G.lk⟩
  · subst e
    rcases hw a ha with z | z
    · exact (List.nodup_append.mp (p1.nodup_iff.mp G1.nd)).2.2 a z a hb rfl
    · have hb' : a ∈ fs.flatten ++ (A' ++ tf) := p1.mem_iff.mpr (List.mem_append_right _ hb)
      obtain ⟨o, q, _⟩ := G1.trk a hb'
      rw [z] at q; cases q
  · rcases List.mem_append.mp (p.mem_iff.mp ha) with z | z
    · rcases hw a z with w | w
      · exact G1.own a (p1.mem_iff.mpr (List.mem_append_left _ w))
      · exact G1.fr.fresh w
    · exact G.own a z
  · rcases List.mem_append.mp (p.mem_iff.mp ha) with z | z
    · exact tk a z
    · exact G.trk a z
theorem AOk.len {Ms Rs ownr} : ∀ {avs vs fps}, AOk C H σ Ms Rs fs ownr avs vs fps → vs.length = (avs.map AV.io).length
  | [], vs, fps, ⟨h, _⟩ => by subst h; rfl
  | .ro d :: as, vs, fps, ⟨v, vs', fp, fps', e1, e2, r, i, x⟩ => by subst e1; simp [AOk.len x]
  | .ow d wb :: as, vs, fps, ⟨v, vs', fp, fps', e1, e2, r, i, x⟩ => by subst e1; simp [AOk.len x]
theorem AOk.argR {Ms Rs ownr} (E : Enter C C' H) (hd : ∀ b, (b ∈ ownr ∨ ∃ r ∈ Rs, b ∈ fs.getD r []) → b ∉ C'.A) : ∀ {avs vs fps}, AOk C H σ Ms Rs fs ownr avs vs fps → ArgR C' H (avs.map AV.io) (avs.map AV.d) vs fps
  | [], vs, fps, ⟨h1, h2⟩ => ⟨rfl, h1, h2⟩
  | .ro d :: as, vs, fps, ⟨v, vs', fp, fps', e1, e2, r, i, x⟩ => ⟨d.lend, _, v, vs', [], fps', rfl, e1, e2, r.lend E (fun b hb => hd b (i b hb)), .inr rfl, AOk.argR E hd x⟩
  | .ow d wb :: as, vs, fps, ⟨v, vs', fp, fps', e1, e2, r, i, x⟩ => ⟨d, _, v, vs', fp, fps', rfl, e1, e2, r.enter E, .inl rfl, AOk.argR E hd x⟩
theorem OutR.trk : ∀ {io os vs fps}, OutR C H io os vs fps → ∀ a ∈ fps.flatten, ∃ o, H a = some o ∧ Mutb o
  | [], os, vs, fps, ⟨_, h⟩ => by subst h; intro a ha; simp at ha
  | true :: bs, os, vs, fps, ⟨o, os', v, vs', fp, fps', e1, e2, e3, r, x⟩ => by
    subst e3
    intro a ha
    rw [List.flatten_cons] at ha
    exact (List.mem_append.mp ha).elim (r.trk a) (OutR.trk x a)
  | false :: bs, os, vs, fps, ⟨v, vs', e, x⟩ => OutR.trk x
def callEnd (avs : List AV) (env : Env) : FR → R D
  | .ok r os => if r.nol && nols os then (match putBack avs os env with
    | some env' => .ok r env'
    | none => .err) else .err
  | .ex x os => if nols os then (match putBack avs os env with
    | some env' => .ex x env'
    | none => .err) else .err
  | .err => .err
def cCall (φ : List D → FR) (cr : Env → R (List AV)) : CE := fun env => (cr env).bind fun avs env => callEnd avs env (φ (avs.map AV.d))
theorem ExIs.leave {x : Exn} {cv dd} (hk : C'.K = C.K) (hm : C'.mg = C.mg) (hl : C'.Lk = C.Lk) (h : ExIs C' x cv dd H) : ExIs C x cv dd H := by
  obtain ⟨Ca, h1, h2, h3⟩ := h
  refine ⟨Ca, by rw [← hm]; exact h1, h2, ?_⟩
  cases q : x.pay with
  | none => rw [q] at h3; exact h3
  | some fd =>
    rw [q] at h3
    obtain ⟨da, v, e1, e2, e3, r⟩ := h3
    exact ⟨da, v, e1, e2, e3, r.leave hk hm hl e3⟩
/-- the call's reading from the callee's promise -/
theorem call_go {io : List Bool} {φ : List D → FR} {t : TA} {E : L2.St → XK}
    (hE : ∀ σ cls d H, W cls d σ H → E σ cls d H) (hio : ∀ env avs env', cr env = .ok avs env' → avs.map AV.io = io)
    (q : ∀ C fs env σ H tf Q, C.At X → Good C fs env σ H tf → PostR W C M Rs tf fs env σ H Q (cr env) → t σ H Q) (hd : djB Rs [] = true) :
    ∀ C fs env σ H tf Q, C.At X → Good C fs env σ H tf → PostO W C M tf fs env σ H Q (cCall φ cr env) → t σ H fun vs H1 => spF X.K X.mg io φ vs H1 Q (E σ) := by
  intro C fs env σ H tf Q hC G po
  refine q C fs env σ H tf _ hC G ?_
  unfold cCall at po
  cases e1 : cr env with
  | err => rw [e1] at po; exact po
  | ex x env' => rw [e1] at po; exact po
  | ok avs env1 =>
    rw [e1] at po
    intro vs fs1 H1 fps ownr G1 s1 ao
    have hio' := hio env avs env1 e1
    have po1 : PostO W C M tf fs env σ H Q (callEnd avs env1 (φ (avs.map AV.d))) := po
    let C' : Ctx := ⟨X.K, X.mg, H1, fps.flatten, C.Lk⟩
    have hk : C'.K = C.K := hC.1.symm
    have hm : C'.mg = C.mg := hC.2.symm
    have E1 : Enter C C' H1 := ⟨hk, hm, rfl, rfl, G1.fr, fun x hx => ⟨G1.own x (List.mem_append_right _ (List.mem_append_left _ hx)), G1.trk x (List.mem_append_right _ (List.mem_append_left _ hx))⟩⟩
    have dis : ∀ b, (b ∈ ownr ∨ ∃ r ∈ Rs, b ∈ fs1.getD r []) → b ∉ C'.A := fun b hb hm' => by
      have nd := (List.nodup_append.mp G1.nd).2.1
      rcases hb with z | ⟨r, _, z⟩
      · exact (List.nodup_append.mp nd).2.2 b hm' b (List.mem_append_left _ z) rfl
      · exact G1.apartT z (List.mem_append_left _ hm')
    have ar := ao.argR E1 dis
    rw [hio'] at ar
    refine ⟨C.Lk, avs.map AV.d, fps, by rw [ao.len, hio'], ar, (List.nodup_append.mp (List.nodup_append.mp G1.nd).2.1).1, G1.lk, ?_⟩
    have fin : ∀ {H2 : Hp} {os : List D} {fpr : List Addr} {fpso : FPs} {env2 : Env}, Fr C' H2 → Mono H1 H2 → OutR C' H2 io os vs fpso → nols os = true → putBack avs os env1 = some env2 → (fpr ++ fpso.flatten).Nodup → (∀ a ∈ fpr ++ fpso.flatten, a ∈ C'.A ∨ H1 a = none) →
        (∀ a ∈ fpr, ∃ o, H2 a = some o ∧ Mutb o) → ∃ fs2, Good C fs2 env2 σ H2 (fpr ++ tf) ∧ Step M tf fs env H fs2 env2 H2 := by
      intro H2 os fpr fpso env2 f m orr hn hp nd hw tk
      obtain ⟨G2, keep⟩ := good_after (C' := C') G1 rfl rfl rfl f m
      have G2' : Good C fs1 env1 σ H2 tf := G2.drop
      have G3 : Good C fs1 env1 σ H2 ((fpr ++ fpso.flatten) ++ (ownr ++ tf)) := good_come (A' := fps.flatten) G1 G2 nd hw fun a ha => (List.mem_append.mp ha).elim (tk a) (orr.trk a)
      have G4 : Good C fs1 env1 σ H2 (fpso.flatten ++ (fpr ++ tf)) := by
        refine (G3.sub (tf' := (fpr ++ fpso.flatten) ++ tf) ((List.Sublist.refl _).append (List.sublist_append_right _ _))).perm ?_
        rw [← List.append_assoc]; exact List.perm_append_comm.append_right _
      rw [← hio'] at orr
      obtain ⟨fs2, G5, s5⟩ := put_back (C' := C') hk hm rfl ao orr hn hp G4
      refine ⟨fs2, G5, ?_⟩
      have s12 : Step M tf fs1 env1 H1 fs1 env1 H2 := ⟨fun a ha => keep a (List.mem_append_right _ (List.mem_append_right _ ha)), fun _ _ => rfl, fun _ _ => rfl, fun i _ a ha => keep a (List.mem_append_left _ (mem_flat ha)), m⟩
      exact ((s1.trans s12).trans (s5.weak (fun _ z => z) fun x hx => List.mem_append_right _ hx)).weak (fun i hi => by
        rcases List.mem_append.mp hi with z | z
        · exact (List.mem_append.mp z).elim id id
        · exact z) fun _ z => z
    cases e2 : φ (avs.map AV.d) with
    | err => rw [e2] at po1; exact po1.elim
    | ok r os =>
      rw [e2] at po1
      simp only [callEnd] at po1
      split at po1
      · rename_i hn
        have hn := Bool.and_eq_true_iff.mp hn
        cases e3 : putBack avs os env1 with
        | none => rw [e3] at po1; exact po1.elim
        | some env2 =>
          rw [e3] at po1
          intro v H2 fpr fpso f m rr orr nd hw
          obtain ⟨fs2, G2, s2⟩ := fin f m orr hn.2 e3 nd hw rr.trk
          exact po1 v fs2 H2 fpr G2 s2 (rr.leave hk hm rfl hn.1)
      · exact po1.elim
    | ex x os =>
      rw [e2] at po1
      simp only [callEnd] at po1
      split at po1
      · rename_i hn
        cases e3 : putBack avs os env1 with
        | none => rw [e3] at po1; exact po1.elim
        | some env2 =>
          rw [e3] at po1
          intro cv dd H2 fpso f m hx orr nd hw
          obtain ⟨fs2, G2, s2⟩ := fin (fpr := []) f m orr hn e3 (by rw [List.nil_append]; exact nd) (by rw [List.nil_append]; exact hw) fun _ z => nomatch z
          exact hE σ cv dd H2 (po1 cv dd fs2 H2 (by simpa using G2) s2 (hx.leave hk hm rfl))
      · exact po1.elim
end
end VS

set_option maxRecDepth 100000
namespace VS
open PySem L2 SeqAt
/-- arguments with their kinds -/
structure SRI (X : Cx) (W : WX) (M Rs : List Nat) (io : List Bool) (es : List Expr) (c : Env → R (List AV)) : Prop where
  sr : SR X W M Rs es c
  shape : ∀ env avs env', c env = .ok avs env' → avs.map AV.io = io
theorem R.bind_ok {α β : Type} {r : R α} {f : α → Env → R β} {b : β} {env : Env} (h : r.bind f = .ok b env) : ∃ a env1, r = .ok a env1 ∧ f a env1 = .ok b env := by
  cases r with
  | ok a e => exact ⟨a, e, rfl, h⟩
  | ex x e => cases h
  | err => cases h
section
variable {X : Cx} {W : WX} {M M1 M2 M3 V1 V2 V3 Rs R1 R2 R3 : List Nat} {e a b c tg : Expr} {es : List Expr} {ca cb cc : CE} {pos p : Pos} {cr : Env → R (List AV)} {io : List Bool}
theorem sri_nil : SRI X W [] [] [] [] aNil := ⟨sr_nil, fun env avs env' h => by cases h; rfl⟩
theorem sri_ro (ha : SB X W M1 R1 a ca) (hr : SRI X W M2 R2 io es cr) (hd : djB R1 M2 = true := by decide) (hs : starEach (a :: es) X.env = (false, eval a X.env) :: starEach es X.env := by rfl) : SRI X W (M1 ++ M2) (R1 ++ R2) (false :: io) (a :: es) (aRo ca cr) :=
  ⟨sr_ro ha hr.sr hd hs, fun env avs env' h => by
    obtain ⟨d, e1, h1, h2⟩ := R.bind_ok h
    obtain ⟨as, e2, h3, h4⟩ := R.bind_ok h2
    cases h4
    simp [AV.io, hr.shape _ _ _ h3]⟩
theorem ow_shape {wb} (hr : SRI X W M2 R2 io es cr) : ∀ env avs env', aOw ca wb cr env = .ok avs env' → avs.map AV.io = true :: io := fun env avs env' h => by
  obtain ⟨d, e1, h1, h2⟩ := R.bind_ok h
  obtain ⟨as, e2, h3, h4⟩ := R.bind_ok h2
  cases h4
  simp [AV.io, hr.shape _ _ _ h3]
theorem sri_ow (ha : SO X W M1 a ca) (hr : SRI X W M2 R2 io es cr) (hs : starEach (a :: es) X.env = (false, eval a X.env) :: starEach es X.env := by rfl) : SRI X W (M1 ++ M2) R2 (true :: io) (a :: es) (aOw ca none cr) :=
  ⟨sr_ow ha hr.sr hs, ow_shape hr⟩
theorem sri_io (i : Nat) {x : Str} (hr : SRI X W M2 R2 io es cr) (hN : X.N[i]? = some x := by rfl) (hv : Vis X.env.scope x := by first | exact Or.inl rfl | exact Or.inr (Or.inl rfl) | exact Or.inr (Or.inr rfl)) (hd : (x == ("__debug__" : Str)) = false := by decide)
    (hcd : (x == ("__classdict__" : Str)) = false := by decide) (hs : starEach (.Name x pos :: es) X.env = (false, eval (.Name x pos) X.env) :: starEach es X.env := by rfl) : SRI X W ([i] ++ M2) R2 (true :: io) (.Name x pos :: es) (aOw (cMv i) (some i) cr) :=
  ⟨sr_io i hr.sr hN hv hd hcd hs, ow_shape hr⟩
/-- a def of the module that comes to φ -/
def Fd (P : Program) (w : World) (K : PySem.W.Frag) (mg : Str → Option Value) (base : Heap) (k : Nat) (x : Str) (ps : List Str) (io : List Bool) (φ : List D → FR) : Prop :=
  ∃ (f : Addr) (fd : FuncData), FnOk P w K mg base (L2.CX P w) k f fd ps (spF K mg io φ) ∧ mg x = some (.ref f) ∧ PySem.W.keepIn K (.ref f) = true ∧ Binds K fd ps []
theorem so_call {k : Nat} {x : Str} {ps : List Str} {φ : List D → FR} {pf : Pos} (F : Fd X.prog X.w X.K X.mg X.base k x ps io φ) (hr : Room k X.A) (tk : Takes X W) (ha : SRI X W M Rs io (e :: es) cr) (hg : Gl X x := by rfl)
    (hdb : (x == ("__debug__" : Str)) = false := by decide) (he : starEach (e :: es) X.env = (false, eval e X.env) :: starEach es X.env := by rfl) (hpl : (backTo pos (starEach es X.env)).any (·.1) = false := by rfl) :
    SO X W M (.Call (.Name x pf) (e :: es) [] pos) (cCall φ cr) := by
  obtain ⟨f, fd, G, hm, hk, hb⟩ := F
  obtain ⟨t, p, q⟩ := ha.sr.go
  refine ⟨tCallS (spF X.K X.mg io φ) (WE W) t, pe_callS G hr hg hm hk hb (fun σ => passAt tk σ) p hdb he hpl, ?_⟩
  exact call_go (E := WE W) (fun _ _ _ _ h => h) ha.shape q (by unfold djB; simp)
end

/-! ### the law's end -/
def spLaw (K : PySem.W.Frag) : Sp := fun vs H Q _ => ∃ (a : Addr) (ns : List Int), vs = [.ref a] ∧ SqL K H a (ns.map V.int) ∧ ns.length ≤ 63 ∧ (∀ z ∈ ns, Builtin.Int.intBits z ≤ 1048576) ∧ ∀ H', Q (.bl true) H'
theorem reps_ints {C : Ctx} {H : Hp} : ∀ ns : List Int, Reps C H (ns.map D.int) (ns.map V.int) []
  | [] => ⟨rfl, rfl⟩
  | n :: ns => ⟨.int n, ns.map V.int, [], [], rfl, ⟨rfl, rfl⟩, reps_ints ns, rfl⟩
theorem law_imp {P : Program} {w : World} {K : PySem.W.Frag} {mg : Str → Option Value} {base : Heap} {k : Nat} {f : Addr} {fd : FuncData} {x : Str} {φ : List D → FR} (F : FnOk P w K mg base (L2.CX P w) k f fd [x] (spF K mg [false] φ))
    (h : ∀ ns : List Int, ns.length ≤ 63 → (∀ z ∈ ns, Builtin.Int.intBits z ≤ 1048576) → φ [.lst .l (ns.map D.int)] = .ok (.bl true) []) : FnOk P w K mg base (L2.CX P w) k f fd [x] (spLaw K) := by
  refine F.imp fun vs H Q E ⟨a, ns, e, sq, h1, h2, q⟩ => ?_
  subst e
  refine ⟨[], [.lst .l (ns.map D.int)], [[]], rfl, ?_, by simp, (fun _ z => nomatch z), ?_⟩
  · refine ⟨_, [], _, [], [], [], rfl, rfl, rfl, ⟨a, ns.map V.int, [], [], rfl, ⟨?_, rfl⟩, reps_ints ns, .inr rfl, rfl⟩, .inr rfl, ⟨rfl, rfl, rfl⟩⟩
    rcases sq with z | z
    · exact .inl ⟨z, by simp⟩
    · exact .inr ⟨_, rfl, z⟩
  · rw [h ns h1 h2]
    intro v H' fp fps _ _ r _ _ _
    obtain ⟨rfl, _⟩ := r
    exact q H'
/-- the facts of a def that the top has left -/
theorem def_in {K : PySem.W.Frag} {h : Heap} {mg : Str → Option Value} {x : Str} {st : Stmt} {f : Addr} {oc : Value} {od an : Option Addr} {osl : Array (Option Value)} {kV doc pm cdv ct : Value} (X : K.In h) (G : h.Ns mainGlobals mg)
    (a : PySem.W.nsIn K mainGlobals x = some (some (.ref f))) (l : K.lookup f = some ⟨oc, od, .func (PySem.W.fnOf x x (defArgs st) (defBody st) (defScope st) .none kV doc pm an cdv ct), osl⟩)
    (c : PySem.W.codeIn K cdv x = true) (k : PySem.W.keepIn K (.ref f) = true) : ∃ fd, Fun K x x st f fd ∧ mg x = some (.ref f) ∧ fd = PySem.W.fnOf x x (defArgs st) (defBody st) (defScope st) .none kV doc pm an cdv ct :=
  ⟨_, fun_mk l c k, PySem.W.mg_of X G a, rfl⟩
theorem fd_mk {P : Program} {w : World} {K : PySem.W.Frag} {mg : Str → Option Value} {base : Heap} {k : Nat} {x : Str} {st : Stmt} {f : Addr} {fd : FuncData} {ps : List Str} {io : List Bool} {φ : List D → FR} (F : Fun K x x st f fd) (hm : mg x = some (.ref f)) (hb : Binds K fd ps [])
    (h : FnOk P w K mg base (L2.CX P w) k f fd ps (spF K mg io φ)) : Fd P w K mg base k x ps io φ := ⟨f, fd, h, hm, F.kp, hb⟩
theorem Fd.mono {P : Program} {w : World} {K : PySem.W.Frag} {mg : Str → Option Value} {base : Heap} {j k : Nat} {x : Str} {ps : List Str} {io : List Bool} {φ : List D → FR} (F : Fd P w K mg base j x ps io φ) (h : j ≤ k) : Fd P w K mg base k x ps io φ :=
  let ⟨f, fd, G, a, b, c⟩ := F
  ⟨f, fd, G.mono h, a, b, c⟩
theorem walkL {l : PySem.W.OpenLaw} {k : Nat} {q : Program} {loose : List Str} {XP : (Str → Option Value) → Heap → Prop} {YP : World → Heap → Prop} {d : DefRec} {K : Params → PySem.W.Frag} {x : Str}
    (hn : l.most = some 63) (hdf : d.params.defaults = []) (hr : Room k callerA)
    (hY : ∀ (w : World) (h : Heap), YP w h → (K w.params).In h)
    (F : ∀ (w : World) (mg : Str → Option Value) (fa : Addr) (h : Heap), (K w.params).In h → h.Ns mainGlobals mg → mg d.name = some (.ref fa) →
      ∃ fd : FuncData, (∀ (s : Shared) (u : Value), BindsTo s fd ⟨[u], []⟩ [(x, u)]) ∧ ∀ base : Heap, (K w.params).In base → base.Ns mainGlobals mg → FnOk l.prog w (K w.params) mg base (L2.CX l.prog w) k fa fd [x] (spLaw (K w.params))) :
    PySem.W.WalkO q loose XP YP l.row.toRowW d [] (fun f vs => PySem.call f vs) :=
  walk_ofB (n := 63) (k := k) (x := x) (CX := fun w => L2.CX l.prog w) (sp := fun w => spLaw (K w.params)) hn (by decide) hdf hr hY F (fun _ _ a ns hl hb _ hS => ⟨a, ns, rfl, hS, hl, hb, fun _ => rfl⟩) fun _ _ _ _ _ z => by
    obtain ⟨_, _, _, _, _, _, _, _, _, _, _, _, h⟩ := z
    exact h
end VS

set_option maxRecDepth 100000
namespace VS
open PySem L2 SeqAt

/-- the tree d' (value v', nodes fp') within d (value v, nodes g1 ++ fp' ++ g2); F puts another one in its place -/
structure Foc (C : Ctx) (H : Hp) (d : D) (v : V) (g1 : List Addr) (d' : D) (v' : V) (fp' g2 : List Addr) (F : D → D) : Prop where
  here : Rep C H d' v' fp'
  back : ∀ H' d'' fp'', Mono H H' → (∀ a ∈ g1 ++ g2, H' a = H a) → Rep C H' d'' v' fp'' → Rep C H' (F d'') v (g1 ++ fp'' ++ g2)
def PostL (W : WX) (C : Ctx) (i : Nat) (M : List Nat) (tf : List Addr) (fs : FPs) (env : Env) (σ : St) (H : Hp) (Q : VK) : R (D × (D → D)) → Prop
  | .ok dF env' => ∀ v' fs' H' d v g1 fp' g2, Good C fs' env' σ H' tf → Step M tf fs env H fs' env' H' → env'[i]? = some (some d) → σ[i]? = some (some v) → fs'.getD i [] = g1 ++ fp' ++ g2 → Foc C H' d v g1 dF.1 v' fp' g2 dF.2 → Q v' H'
  | .ex x env' => ∀ cv dd fs' H', Good C fs' env' σ H' tf → Step M tf fs env H fs' env' H' → ExIs C x cv dd H' → W cv dd σ H'
  | .err => False
abbrev CL := Env → R (D × (D → D))
/-- a place within slot i -/
structure SL (X : Cx) (W : WX) (i : Nat) (M : List Nat) (e : Expr) (c : CL) : Prop where
  go : ∃ t, PE X e t ∧ ∀ C fs env σ H tf Q, C.At X → Good C fs env σ H tf → PostL W C i M tf fs env σ H Q (c env) → t σ H Q

section
variable {X : Cx} {W : WX} {M M1 M2 M3 V1 V2 V3 Rs R1 R2 R3 : List Nat} {e a b c tg o : Expr} {es : List Expr} {ca cb cc : CE} {cs : CA} {pos p : Pos} {cl : CL} {i : Nat}
variable {pins : List (Addr × Obj)} {σ : St} {H H1 H2 H' : Hp} {s : Shared} {C C' : Ctx} {fs fs1 fs2 : FPs} {env env1 env2 : Env} {tf tf' own : List Addr}

theorem foc_self {d v fp} (r : Rep C H d v fp) : Foc C H d v [] d v fp [] id := ⟨r, fun H' d'' fp'' _ _ r' => by simpa using r'⟩
theorem Foc.keep {d v g1 d' v' fp' g2 F} (f : Foc C H d v g1 d' v' fp' g2 F) (m : Mono H H') (k : ∀ a ∈ g1 ++ fp' ++ g2, H' a = H a) : Foc C H' d v g1 d' v' fp' g2 F :=
  ⟨f.here.keep (fun a ha => k a (by simp [ha])) m, fun H2 d'' fp'' m2 k2 r => f.back H2 d'' fp'' (m.trans m2) (fun a ha => (k2 a ha).trans (k a (by
    rcases List.mem_append.mp ha with z | z <;> simp [z]))) r⟩
theorem Foc.comp {d v g1 d1 v1 fp1 g2 F h1 d2 v2 fp2 h2 G} (f : Foc C H d v g1 d1 v1 fp1 g2 F) (g : Foc C H d1 v1 h1 d2 v2 fp2 h2 G) (e : fp1 = h1 ++ fp2 ++ h2) : Foc C H d v (g1 ++ h1) d2 v2 fp2 (h2 ++ g2) (F ∘ G) := by
  refine ⟨g.here, fun H' d'' fp'' m k r => ?_⟩
  have r1 := g.back H' d'' fp'' m (fun a ha => k a (by rcases List.mem_append.mp ha with z | z <;> simp [z])) r
  have r2 := f.back H' (G d'') _ m (fun a ha => k a (by rcases List.mem_append.mp ha with z | z <;> simp [z])) r1
  simpa [List.append_assoc] using r2
theorem reps_set : ∀ {ds : List D} {vs : List V} {fp : List Addr} {j : Nat} {x : D}, Reps C H ds vs fp → ds[j]? = some x → ∃ w g1 f g2, vs[j]? = some w ∧ Rep C H x w f ∧ fp = g1 ++ f ++ g2 ∧
    ∀ H' y w' f', Mono H H' → (∀ a ∈ g1 ++ g2, H' a = H a) → Rep C H' y w' f' → Reps C H' (ds.set j y) (vs.set j w') (g1 ++ f' ++ g2)
  | [], vs, fp, j, x, _, h => by simp at h
  | d :: ds, vs, fp, 0, x, ⟨v, vs', f1, f2, e, r, rs, e2⟩, h => by
    simp at h; subst h; subst e
    refine ⟨v, [], f1, f2, by simp, r, by simpa using e2, fun H' y w' f' m k r' => ?_⟩
    exact ⟨w', vs', f', f2, rfl, r', rs.keep (fun a ha => k a (by simp [ha])) m, by simp⟩
  | d :: ds, vs, fp, j + 1, x, ⟨v, vs', f1, f2, e, r, rs, e2⟩, h => by
    subst e
    obtain ⟨w, g1, f, g2, h1, h2, h3, h4⟩ := reps_set (j := j) rs (by simpa using h)
    refine ⟨w, f1 ++ g1, f, g2, by simpa using h1, h2, by rw [e2, h3]; simp [List.append_assoc], fun H' y w' f' m k r' => ?_⟩
    exact ⟨v, _, f1, g1 ++ f' ++ g2, rfl, r.keep (fun a ha => k a (by simp [ha])) m, h4 H' y w' f' m (fun a ha => k a (by rcases List.mem_append.mp ha with z | z <;> simp [z])) r', by simp [List.append_assoc]⟩
def idxK : List Key → Key → Option Nat
  | [], _ => none
  | k0 :: ks, k => if k0 = k then some 0 else (idxK ks k).map (· + 1)
theorem idx_val : ∀ {kvs : List (Key × V)} {k : Key} {j : Nat}, idxK (kvs.map (·.1)) k = some j → valV kvs k = (kvs[j]?).map (·.2) ∧ j < kvs.length
  | [], k, j, h => by simp [idxK] at h
  | kv :: kvs, k, j, h => by
    simp only [List.map_cons, idxK] at h
    by_cases e : kv.1 = k
    · rw [if_pos e] at h; cases h
      exact ⟨by rw [valV_pos e]; simp, by simp⟩
    · rw [if_neg e] at h
      obtain ⟨j', h', rfl⟩ := Option.map_eq_some_iff.mp h
      obtain ⟨h1, h2⟩ := idx_val h'
      exact ⟨by rw [valV_neg e, h1]; simp, by simp; omega⟩
theorem idx_none : ∀ {kvs : List (Key × V)} {k : Key}, idxK (kvs.map (·.1)) k = none → valV kvs k = none
  | [], k, h => rfl
  | kv :: kvs, k, h => by
    simp only [List.map_cons, idxK] at h
    by_cases e : kv.1 = k
    · rw [if_pos e] at h; cases h
    · rw [if_neg e] at h
      rw [valV_neg e]
      exact idx_none (by simpa using h)
theorem idx_nodup : ∀ {kvs : List (Key × V)} {k : Key} {j : Nat} {v : V}, (kvs.map (·.1)).Nodup → idxK (kvs.map (·.1)) k = some j → putK kvs k v = kvs.set j (k, v)
  | [], k, j, v, _, h => by simp [idxK] at h
  | kv :: kvs, k, j, v, nd, h => by
    have h0 := h
    simp only [List.map_cons, idxK] at h
    simp only [List.map_cons, List.nodup_cons] at nd
    by_cases e : kv.1 = k
    · rw [if_pos e] at h; cases h
      unfold putK
      have : ((kv :: kvs).any fun kv => decide (kv.1 = k)) = true := by simp [e]
      rw [if_pos this]
      simp only [List.map_cons, List.set_cons_zero]
      rw [if_pos e, e]
      congr 1
      have key : ∀ x ∈ kvs, (if x.1 = k then (x.1, v) else x) = x := fun x hx => by
        have : ¬ x.1 = k := fun z => nd.1 (List.mem_map.mpr ⟨x, hx, z.trans e.symm⟩)
        rw [if_neg this]
      rw [List.map_congr_left key]; simp
    · rw [if_neg e] at h
      obtain ⟨j', h', rfl⟩ := Option.map_eq_some_iff.mp h
      have ih := idx_nodup (v := v) nd.2 h'
      have hv := idx_val h'
      unfold putK at ih ⊢
      have a1 : (kvs.any fun kv => decide (kv.1 = k)) = true := by
        rw [valV_any, hv.1, List.getElem?_eq_getElem hv.2]; rfl
      have a2 : ((kv :: kvs).any fun kv => decide (kv.1 = k)) = true := by simp [a1]
      rw [if_pos a1] at ih
      rw [if_pos a2]
      simp only [List.map_cons, List.set_cons_succ]
      rw [if_neg e, ih]

/-! ### places -/
def lVar (i : Nat) : CL := fun env => match env[i]? with
  | some (some d) => .ok (d, id) env
  | _ => .err
theorem sl_var (i : Nat) {x : Str} (hN : X.N[i]? = some x := by rfl) (hv : Vis X.env.scope x := by first | exact Or.inl rfl | exact Or.inr (Or.inl rfl) | exact Or.inr (Or.inr rfl)) (hd : (x == ("__debug__" : Str)) = false := by decide)
    (hcd : (x == ("__classdict__" : Str)) = false := by decide) : SL X W i [] (.Name x pos) (lVar i) := by
  refine ⟨tVar i, pe_var hN hv hd hcd, fun C fs env σ H tf Q hC G po => ?_⟩
  unfold lVar at po
  split at po
  · rename_i d e1
    obtain ⟨v, e2, r⟩ := G.rep i d e1
    exact ⟨v, e2, po v fs H d v [] (fs.getD i []) [] G .refl e1 e2 (by simp) (foc_self r)⟩
  · exact po.elim
/-- the j-th child of a node of ours -/
def kidD : D → D → Option (D × (D → D))
  | .lst .m ds, .int k => (ixN ds.length k).bind fun j => (ds[j]?).map fun x => (x, fun y => .lst .m (ds.set j y))
  | .dct .m ks ds, k => k.key.bind fun k => (idxK ks k).bind fun j => (ds[j]?).map fun x => (x, fun y => .dct .m ks (ds.set j y))
  | _, _ => none
def lIdx (cl : CL) (cb : CE) : CL := fun env => (cl env).bind fun dF env => (cb env).bind fun y env => match kidD dF.1 y with
  | some (x, G) => .ok (x, dF.2 ∘ G) env
  | none => .err
theorem foc_kid {d y x : D} {G : D → D} {v w : V} {fp fw} (hC : C.At X) (hF : Fr C H) (r : Rep C H d v fp) (ry : Rep C H y w fw) (h : kidD d y = some (x, G)) :
    ∃ v' g1 fp' g2, fp = g1 ++ fp' ++ g2 ∧ Foc C H d v g1 x v' fp' g2 G ∧ ∀ Q : VK, Q v' H → (rIx X.K v w H Q ∨ rIxD v w H Q) := by
  unfold kidD at h
  split at h
  · rename_i ds k
    obtain ⟨j, hj, h⟩ := Option.bind_eq_some_iff.mp h
    obtain ⟨x', hx, h⟩ := Option.map_eq_some_iff.mp h
    cases h
    have r0 := r
    obtain ⟨a, vs, f1, f2, rfl, ⟨hH, rfl⟩, rs, _, rfl⟩ := r
    obtain ⟨rfl, _⟩ := ry
    obtain ⟨w', g1, f, g2, h1, h2, h3, h4⟩ := reps_set rs hx
    refine ⟨w', a :: g1, f, g2, by rw [h3]; simp, ⟨h2, fun H' y f' m k' r' => ?_⟩, fun Q q => .inl (.inl ⟨a, vs, k, w', rfl, rfl, SqL.of hH, ?_, q⟩)⟩
    · have hs := h4 H' y w' f' m (fun b hb => k' b (by simp at hb ⊢; rcases hb with z | z <;> simp [z])) r'
      have e : vs.set j w' = vs := by
        obtain ⟨q1, q2⟩ := List.getElem?_eq_some_iff.mp h1
        conv => rhs; rw [← List.set_getElem_self (as := vs) (i := j) q1]
        rw [q2]
      rw [e] at hs
      exact ⟨a, vs, [a], _, rfl, ⟨by rw [k' a (by simp)]; exact hH, rfl⟩, hs, .inl rfl, by simp⟩
    · unfold atI
      rw [← reps_length rs, hj]; exact h1
  · rename_i ks ds _
    obtain ⟨ky, hk, h⟩ := Option.bind_eq_some_iff.mp h
    obtain ⟨j, hj, h⟩ := Option.bind_eq_some_iff.mp h
    obtain ⟨x', hx, h⟩ := Option.map_eq_some_iff.mp h
    cases h
    obtain ⟨a, kvs, f1, f2, rfl, ⟨hH, rfl⟩, hks, rs, _, rfl⟩ := r
    obtain ⟨w', g1, f, g2, h1, h2, h3, h4⟩ := reps_set rs hx
    have ey := key_of hk ry
    have hks0 := hks
    rw [← hks.1] at hj
    obtain ⟨hv1, hv2⟩ := idx_val hj
    have hw : valV kvs ky = some w' := by rw [hv1]; rw [List.getElem?_map] at h1; exact h1
    refine ⟨w', a :: g1, f, g2, by rw [h3]; simp, ⟨h2, fun H' y f' m k' r' => ?_⟩, fun Q q => .inr ⟨a, w', rfl, .inl ⟨kvs, ky, .inl hH, ey, hw.symm⟩, q⟩⟩
    have hs := h4 H' y w' f' m (fun b hb => k' b (by simp at hb ⊢; rcases hb with z | z <;> simp [z])) r'
    have e : (kvs.map (·.2)).set j w' = kvs.map (·.2) := by
      obtain ⟨q1, q2⟩ := List.getElem?_eq_some_iff.mp h1
      conv => rhs; rw [← List.set_getElem_self (as := kvs.map (·.2)) (i := j) q1]
      rw [q2]
    rw [e] at hs
    exact ⟨a, kvs, [a], _, rfl, ⟨by rw [k' a (by simp)]; exact hH, rfl⟩, hks, hs, .inl rfl, by simp⟩
  · cases h
theorem sl_idx {k : Nat} (hr : Room k X.A) (ha : SL X W i M1 a cl) (hb : SB X W M2 R2 b cb) (hs : PlainIx b := by exact fun _ _ => rfl) (hi : djB [i] M2 = true := by decide) : SL X W i (M1 ++ M2) (.Subscript a b pos) (lIdx cl cb) := by
  obtain ⟨t, p, q⟩ := ha.go
  obtain ⟨t2, p2, q2⟩ := hb.go
  refine ⟨tOp (fun x y H Q => rIx X.K x y H Q ∨ rIxD x y H Q) t t2, pe_ix (ix_seq.or (ix_dict hr)) p p2 hs, fun C fs env σ H tf Q hC G po => ?_⟩
  refine q C fs env σ H tf _ hC G ?_
  unfold lIdx at po
  cases e1 : cl env with
  | err => rw [e1] at po; exact po
  | ex x env' => rw [e1] at po; exact fun cv dd fs' H' G' s => po cv dd fs' H' G' (s.weak mem_l fun _ z => z)
  | ok dF env1 =>
    rw [e1] at po
    intro v' fs1 H1 d v g1 fp' g2 G1 s1 hd hv hf Fo
    refine q2 C fs1 env1 σ H1 tf _ hC G1 ?_
    have po1 : PostL W C i (M1 ++ M2) tf fs env σ H Q ((cb env1).bind fun y env => match kidD dF.1 y with
      | some (x, G) => .ok (x, dF.2 ∘ G) env
      | none => .err) := po
    cases e2 : cb env1 with
    | err => rw [e2] at po1; exact po1
    | ex x env' => rw [e2] at po1; exact fun cv dd fs' H' G' s => po1 cv dd fs' H' G' (s1.trans s)
    | ok y env2 =>
      rw [e2] at po1
      intro w fs2 H2 fw own G2 s2 rw' iw
      have ni : i ∉ M2 := djB_ok hi i (by simp)
      have Fo2 := Fo.keep s2.m (fun a ha => s2.h i ni a (by rw [hf]; exact ha))
      have po2 : PostL W C i (M1 ++ M2) tf fs env σ H Q (match kidD dF.1 y with
        | some (x, G) => .ok (x, dF.2 ∘ G) env2
        | none => .err) := po1
      cases e3 : kidD dF.1 y with
      | none => rw [e3] at po2; exact po2.elim
      | some xG =>
        rw [e3] at po2
        obtain ⟨x, Gf⟩ := xG
        obtain ⟨v2, h1, f2, h2, ef, F2, rd⟩ := foc_kid hC G2.fr Fo2.here rw' e3
        refine rd Q ?_
        refine po2 v2 fs2 H2 d v (g1 ++ h1) f2 (h2 ++ g2) G2.drop (s1.trans s2) (by rw [s2.e i ni]; exact hd) hv ?_ (Fo2.comp F2 ef)
        rw [s2.f i ni, hf, ef]; simp [List.append_assoc]

/-! ### a change at a place -/
theorem Good.mut {d v g1 d' v' fp' g2 F d'' fp'' fx} (G : Good C fs env σ H (fx ++ tf)) (e1 : env[i]? = some (some d)) (e2 : σ[i]? = some (some v)) (e3 : fs.getD i [] = g1 ++ fp' ++ g2) (Fo : Foc C H d v g1 d' v' fp' g2 F)
    (m : Mono H H') (ch : ∀ a o, H a = some o → a ∉ fp' → H' a = some o) (r : Rep C H' d'' v' fp'') (nd : (fp'' ++ tf').Nodup) (sub : ∀ a ∈ fp'' ++ tf', a ∈ fp' ∨ a ∈ fx ++ tf ∨ H a = none) (tk : ∀ a ∈ tf', ∃ o, H' a = some o ∧ Mutb o) :
    Good C (fs.set i (g1 ++ fp'' ++ g2)) (env.set i (some (F d''))) σ H' tf' := by
  have hl := G.lt e1
  have hle : i < env.length := by rw [G.le, ← G.lf]; exact hl
  -- the footprints that stay
  have p0 := flat_get fs hl
  have stay : ∀ a, (a ∈ g1 ++ g2 ∨ a ∈ (fs.set i []).flatten) → a ∉ fp' ∧ a ∉ fx ++ tf ∧ ∃ o, H a = some o ∧ Mutb o := by
    intro a ha
    have hm : a ∈ fs.flatten := by
      rcases ha with z | z
      · refine p0.mem_iff.mpr (List.mem_append_left _ ?_)
        rw [e3]; rcases List.mem_append.mp z with z | z <;> simp [z]
      · exact p0.mem_iff.mpr (List.mem_append_right _ z)
    refine ⟨fun hx => ?_, fun hx => (List.nodup_append.mp G.nd).2.2 a hm a hx rfl, G.trk a (List.mem_append_left _ hm)⟩
    have nd1 := p0.nodup_iff.mp (List.nodup_append.mp G.nd).1
    rw [e3] at nd1
    rcases ha with z | z
    · have := (List.nodup_append.mp nd1).1
      have pp : (g1 ++ fp' ++ g2).Perm (fp' ++ (g1 ++ g2)) := by
        rw [List.append_assoc]; exact List.perm_append_comm_assoc _ _ _
      exact (List.nodup_append.mp (pp.nodup_iff.mp this)).2.2 a hx a z rfl
    · exact (List.nodup_append.mp nd1).2.2 a (by simp [hx]) a z rfl
  have keep : ∀ a, (a ∈ g1 ++ g2 ∨ a ∈ (fs.set i []).flatten) → H' a = H a := fun a ha => by
    obtain ⟨h1, _, o, e, _⟩ := stay a ha
    rw [e]; exact ch a o e h1
  have p1 := flat_set fs hl (g1 ++ fp'' ++ g2)
  have pt : ((fs.set i (g1 ++ fp'' ++ g2)).flatten ++ tf').Perm ((g1 ++ g2) ++ (fs.set i []).flatten ++ (fp'' ++ tf')) := by
    refine (p1.append_right tf').trans ?_
    have a1 : (g1 ++ fp'' ++ g2).Perm ((g1 ++ g2) ++ fp'') := by
      rw [List.append_assoc, List.append_assoc]; exact List.perm_append_comm.append_left g1
    refine ((a1.append_right _).append_right _).trans ?_
    simp only [List.append_assoc]
    refine List.Perm.append_left _ (List.Perm.append_left _ ?_)
    exact List.perm_append_comm_assoc _ _ _
  refine ⟨by simpa using G.le, by simpa using G.lf, fun j dj ej => ?_, pt.nodup_iff.mpr (List.nodup_append.mpr ⟨?_, nd, fun a ha b hb eab => ?_⟩), fun a ha => ?_, fun a ha => ?_, ?_, fun a ha => ?_⟩
  · rw [List.getElem?_set] at ej
    by_cases hj : i = j
    · subst hj
      simp [hle] at ej; subst ej
      refine ⟨v, e2, ?_⟩
      rw [getD_set fs i i _ hl, if_pos rfl]
      exact Fo.back H' d'' fp'' m (fun a ha => keep a (.inl ha)) r
    · rw [if_neg hj] at ej
      obtain ⟨w, h1, h2⟩ := G.rep j dj ej
      refine ⟨w, h1, ?_⟩
      rw [getD_set fs i j _ hl, if_neg (Ne.symm hj)]
      refine h2.keep (fun a ha => keep a (.inr ?_)) m
      have : a ∈ (fs.set i []).getD j [] := by rw [getD_set fs i j _ hl, if_neg (Ne.symm hj)]; exact ha
      exact mem_flat this
  · have nd1 := p0.nodup_iff.mp (List.nodup_append.mp G.nd).1
    rw [e3] at nd1
    refine nd1.sublist ?_
    refine List.Sublist.append ?_ (List.Sublist.refl _)
    exact List.Sublist.append (List.sublist_append_left _ _) (List.Sublist.refl _)
  · subst eab
    obtain ⟨h1, h2, o, e, _⟩ := stay a (List.mem_append.mp ha)
    rcases sub a hb with z | z | z
    · exact h1 z
    · exact h2 z
    · rw [z] at e; cases e
  · have := pt.mem_iff.mp ha
    rcases List.mem_append.mp this with z | z
    · rcases List.mem_append.mp z with z | z
      · refine G.own a (List.mem_append_left _ (p0.mem_iff.mpr (List.mem_append_left _ ?_)))
        rw [e3]; rcases List.mem_append.mp z with z | z <;> simp [z]
      · exact G.own a (List.mem_append_left _ (p0.mem_iff.mpr (List.mem_append_right _ z)))
    · rcases sub a z with w | w | w
      · refine G.own a (List.mem_append_left _ (p0.mem_iff.mpr (List.mem_append_left _ ?_)))
        rw [e3]; simp [w]
      · exact G.own a (List.mem_append_right _ w)
      · exact G.fr.fresh w
  · have := pt.mem_iff.mp ha
    rcases List.mem_append.mp this with z | z
    · obtain ⟨_, _, o, e, mu⟩ := stay a (List.mem_append.mp z)
      exact ⟨o, by rw [keep a (List.mem_append.mp z)]; exact e, mu⟩
    · rcases List.mem_append.mp z with z | z
      · exact r.trk a z
      · exact tk a z
  · intro a o e na
    rcases G.fr a o e na with q | ⟨q1, q2, ob, q⟩
    · refine .inl (ch a o q fun hx => ?_)
      have : a ∈ fs.flatten := p0.mem_iff.mpr (List.mem_append_left _ (by rw [e3]; simp [hx]))
      rcases G.own a (List.mem_append_left _ this) with w | w
      · exact na w
      · rw [e] at w; cases w
    · exact .inr ⟨q1, q2, ob, m.z _ _ _ q⟩
  · obtain ⟨ob, u, e⟩ := G.lk a ha
    exact ⟨ob, u, m.z _ _ _ e⟩
theorem Step.mut {d : D} {g1 fp' g2 fx : List Addr} {dn : D} {fn : List Addr} (G : Good C fs env σ H (fx ++ tf)) (e1 : env[i]? = some (some d)) (e3 : fs.getD i [] = g1 ++ fp' ++ g2)
    (m : Mono H H') (ch : ∀ a o, H a = some o → a ∉ fp' → H' a = some o) : Step [i] tf fs env H (fs.set i fn) (env.set i (some dn)) H' := by
  have hl := G.lt e1
  have inf : ∀ a ∈ fp', a ∈ fs.getD i [] := fun a ha => by rw [e3]; simp [ha]
  refine ⟨fun a ha => ?_, fun j hj => ?_, fun j hj => ?_, fun j hj a ha => ?_, m⟩
  · obtain ⟨o, e, _⟩ := G.trk a (by simp [ha])
    rw [e]; exact ch a o e fun hx => G.apartT (inf a hx) (by simp [ha])
  · rw [getD_set fs i j _ hl, if_neg (by simpa using hj)]
  · rw [List.getElem?_set, if_neg (by intro z; subst z; simp at hj)]
  · obtain ⟨o, e, _⟩ := G.trk a (List.mem_append_left _ (mem_flat ha))
    rw [e]; exact ch a o e fun hx => G.apart (by simpa using hj) ha (inf a hx)

/-- a method of Python's own that changes its object -/
structure MuOk (X : Cx) (T : String) (r : V → List V → Hp → VK → Prop) (kd : D → Bool) (mp : D → List D → Option (D × D)) : Prop where
  run : ∀ C H v d fp vs ds fpa Q d' res, C.At X → Fr C H → Rep C H d v fp → Reps C H ds vs fpa → (fp ++ fpa).Nodup → mp d ds = some (d', res) →
    (∀ H' w fp' fpr, Mono H H' → (∀ a o, H a = some o → a ∉ fp → H' a = some o) → Rep C H' d' v fp' → Rep C H' res w fpr → (fp' ++ fpr).Nodup → (∀ a ∈ fp' ++ fpr, a ∈ fp ∨ a ∈ fpa ∨ H a = none) → Q w H') → r v vs H Q
  ty : ∀ C H v d fp, C.At X → Fr C H → Rep C H d v fp → kd d = true → tyV X.K T v H
def cMut (i : Nat) (kd : D → Bool) (mp : D → List D → Option (D × D)) (cl : CL) (cs : CA) : CE := fun env => (cl env).bind fun dF env => if kd dF.1 then (cs env).bind fun ds env => match mp dF.1 ds with
  | some dr => .ok dr.2 (env.set i (some (dF.2 dr.1)))
  | none => .err
  else .err
theorem mut_go {T : String} {r : V → List V → Hp → VK → Prop} {kd : D → Bool} {mp : D → List D → Option (D × D)} (mu : MuOk X T r kd mp) {t : TE} {t2 : TA} (hi : djB [i] M2 = true)
    (q : ∀ C fs env σ H tf Q, C.At X → Good C fs env σ H tf → PostL W C i M1 tf fs env σ H Q (cl env) → t σ H Q)
    (q2 : ∀ C fs env σ H tf Q, C.At X → Good C fs env σ H tf → PostAO W C M2 tf fs env σ H Q (cs env) → t2 σ H Q) {tt : TE}
    (htt : ∀ σ H Q, (t σ H fun x H1 => (tyV X.K T x H1 ∧ t2 σ H1 fun xs H2 => r x xs H2 Q)) → tt σ H Q) :
    ∀ C fs env σ H tf Q, C.At X → Good C fs env σ H tf → PostO W C (M1 ++ (M2 ++ [i])) tf fs env σ H Q (cMut i kd mp cl cs env) → tt σ H Q := by
  intro C fs env σ H tf Q hC G po
  refine htt σ H Q (q C fs env σ H tf _ hC G ?_)
  unfold cMut at po
  cases e1 : cl env with
  | err => rw [e1] at po; exact po
  | ex x env' => rw [e1] at po; exact fun cv dd fs' H' G' s => po cv dd fs' H' G' (s.weak mem_l fun _ z => z)
  | ok dF env1 =>
    rw [e1] at po
    intro v' fs1 H1 d v g1 fp' g2 G1 s1 hd hv hf Fo
    have po0 : PostO W C (M1 ++ (M2 ++ [i])) tf fs env σ H Q (if kd dF.1 then (cs env1).bind fun ds env => match mp dF.1 ds with
      | some dr => .ok dr.2 (env.set i (some (dF.2 dr.1)))
      | none => .err
      else .err) := po
    split at po0
    case isFalse => exact po0.elim
    rename_i hkd
    refine ⟨mu.ty C H1 v' dF.1 fp' hC G1.fr Fo.here hkd, ?_⟩
    refine q2 C fs1 env1 σ H1 tf _ hC G1 ?_
    have po1 : PostO W C (M1 ++ (M2 ++ [i])) tf fs env σ H Q ((cs env1).bind fun ds env => match mp dF.1 ds with
      | some dr => .ok dr.2 (env.set i (some (dF.2 dr.1)))
      | none => .err) := po0
    cases e2 : cs env1 with
    | err => rw [e2] at po1; exact po1
    | ex x env' => rw [e2] at po1; exact fun cv dd fs' H' G' s => po1 cv dd fs' H' G' ((s1.trans s).weak (fun i hi => by
        rcases List.mem_append.mp hi with z | z <;> simp [z]) fun _ z => z)
    | ok ds env2 =>
      rw [e2] at po1
      intro vs fs2 H2 fpa G2 s2 ra
      have ni : i ∉ M2 := djB_ok hi i (by simp)
      have Fo2 := Fo.keep s2.m (fun a ha => s2.h i ni a (by rw [hf]; exact ha))
      have hd2 : env2[i]? = some (some d) := by rw [s2.e i ni]; exact hd
      have hf2 : fs2.getD i [] = g1 ++ fp' ++ g2 := by rw [s2.f i ni]; exact hf
      have po2 : PostO W C (M1 ++ (M2 ++ [i])) tf fs env σ H Q (match mp dF.1 ds with
        | some dr => .ok dr.2 (env2.set i (some (dF.2 dr.1)))
        | none => .err) := po1
      cases e3 : mp dF.1 ds with
      | none => rw [e3] at po2; exact po2.elim
      | some dr =>
        rw [e3] at po2
        obtain ⟨d', res⟩ := dr
        have inf : ∀ a ∈ fp', a ∈ fs2.getD i [] := fun a ha => by rw [hf2]; simp [ha]
        have ndp : (fp' ++ fpa).Nodup := by
          have nd := G2.nd
          refine List.nodup_append.mpr ⟨?_, (List.nodup_append.mp (List.nodup_append.mp nd).2.1).1, fun a ha b hb eab => ?_⟩
          · have := (List.nodup_append.mp nd).1
            have := (flat_get fs2 (G2.lt hd2)).nodup_iff.mp this
            have := (List.nodup_append.mp this).1
            rw [hf2] at this
            exact (List.nodup_append.mp (List.nodup_append.mp this).1).2.1
          · subst eab; exact G2.apartT (inf a ha) (by simp [hb])
        refine mu.run C H2 v' dF.1 fp' vs ds fpa Q d' res hC G2.fr Fo2.here ra ndp e3 fun H3 w fp3 fpr m3 ch r3 rr nd3 sub3 => ?_
        have tfk : ∀ a ∈ tf, H3 a = H2 a := fun a ha => by
          obtain ⟨o, e, _⟩ := G2.trk a (by simp [ha])
          rw [e]; exact ch a o e fun hx => G2.apartT (inf a hx) (by simp [ha])
        have Gn : Good C (fs2.set i (g1 ++ fp3 ++ g2)) (env2.set i (some (dF.2 d'))) σ H3 (fpr ++ tf) := by
          refine G2.mut hd2 hv hf2 Fo2 m3 ch r3 ?_ ?_ ?_
          · rw [← List.append_assoc]
            refine List.nodup_append.mpr ⟨nd3, (List.nodup_append.mp (List.nodup_append.mp G2.nd).2.1).2.1, fun a ha b hb eab => ?_⟩
            subst eab
            rcases sub3 a ha with z | z | z
            · exact G2.apartT (inf a z) (by simp [hb])
            · exact (List.nodup_append.mp (List.nodup_append.mp G2.nd).2.1).2.2 a z a hb rfl
            · obtain ⟨o, e, _⟩ := G2.trk a (by simp [hb])
              rw [z] at e; cases e
          · intro a ha
            rw [← List.append_assoc] at ha
            rcases List.mem_append.mp ha with z | z
            · rcases sub3 a z with w | w | w
              · exact .inl w
              · exact .inr (.inl (by simp [w]))
              · exact .inr (.inr w)
            · exact .inr (.inl (by simp [z]))
          · intro a ha
            rcases List.mem_append.mp ha with z | z
            · exact rr.trk a z
            · rw [tfk a z]; exact G2.trk a (by simp [z])
        have sn : Step [i] tf fs2 env2 H2 (fs2.set i (g1 ++ fp3 ++ g2)) (env2.set i (some (dF.2 d'))) H3 := Step.mut (d := d) G2 hd2 hf2 m3 ch
        exact po2 w _ H3 fpr Gn (by
          have := (s1.trans s2).trans sn
          rw [List.append_assoc] at this; exact this) rr

variable {T id : String} {name : Str} {apos cpos : Pos} {r : V → List V → Hp → VK → Prop} {kd : D → Bool} {mp : D → List D → Option (D × D)} {e1' : Expr}
theorem so_mut (mu : MuOk X T r kd mp) (pa : PlainAttrs T) (slot : Slot T name id) (hty : typeOf (.builtin id) = pure (.type "method_descriptor")) (hm : MtR X id r) (ho : SL X W i M1 o cl) (ha : SAO X W M2 (e :: es) cs)
    (hi : djB [i] M2 = true := by decide) (hbase : attributeBase o name X.env (eval o X.env) = eval o X.env := by rfl)
    (hfew : ((backTo cpos (starEach (e :: es) X.env)).all (fun x => !x.1) && (backToKw cpos (keywordEach [] X.env)).all (fun x => x.1.isSome)
      && decide ((e :: es).length + ([] : List Keyword).length + (if ([] : List Keyword).isEmpty then 0 else 1) < 30)) = true := by rfl)
    (hline : (apos.endLine == cpos.line) = true := by rfl) (hs : starEach (e :: es) X.env = (false, eval e X.env) :: starEach es X.env := by rfl) (hplain : (backTo cpos (starEach es X.env)).any (·.1) = false := by rfl) :
    SO X W (M1 ++ (M2 ++ [i])) (.Call (.Attribute o name apos) (e :: es) [] cpos) (cMut i kd mp cl cs) := by
  obtain ⟨t, p, q⟩ := ho.go
  obtain ⟨t2, p2, q2⟩ := ha.go
  exact ⟨tBM X.K T r t t2, pe_bm pa slot hty hm p p2 hbase hfew hline hs hplain, mut_go mu hi q q2 fun σ H Q h => h⟩
theorem so_mut0 (mu : MuOk X T r kd mp) (pa : PlainAttrs T) (slot : Slot T name id) (hty : typeOf (.builtin id) = pure (.type "method_descriptor")) (hm : MtR X id r) (ho : SL X W i M1 o cl)
    (hbase : attributeBase o name X.env (eval o X.env) = eval o X.env := by rfl) (hline : (apos.endLine == cpos.line) = true := by rfl) :
    SO X W (M1 ++ ([] ++ [i])) (.Call (.Attribute o name apos) [] [] cpos) (cMut i kd mp cl cNil) := by
  obtain ⟨t, p, q⟩ := ho.go
  refine ⟨tBM0 X.K T r t, pe_bm0 pa slot hty hm p hbase hline, mut_go (t2 := tNil) mu (by unfold djB; simp) q (fun C fs env σ H tf Q hC G po => ?_) fun σ H Q h => h⟩
  exact po [] fs H [] (by simpa using G) .refl ⟨rfl, rfl⟩

def kdL : D → Bool
  | .lst .m _ => true
  | _ => false
theorem kdL_inv {d : D} (h : kdL d = true) : ∃ ds, d = .lst .m ds := by
  unfold kdL at h
  split at h
  · exact ⟨_, rfl⟩
  · cases h
theorem ty_list : ∀ C H v d fp, C.At X → Fr C H → Rep C H d v fp → kdL d = true → tyV X.K "list" v H := by
  intro C H v d fp hC hF r h
  obtain ⟨ds, rfl⟩ := kdL_inv h
  obtain ⟨a, vs, f, rfl, q, _⟩ := rep_list hC hF r
  exact .inl ⟨rfl, vs, q⟩
theorem rep_m {ds v fp} (r : Rep C H (.lst .m ds) v fp) : ∃ a vs f, v = .ref a ∧ H a = some (.lst vs) ∧ Reps C H ds vs f ∧ fp = a :: f := by
  obtain ⟨a, vs, f1, f2, e, ⟨h, rfl⟩, r, _, e2⟩ := r
  exact ⟨a, vs, f2, e, h, r, e2⟩
theorem reps_append : ∀ {ds es : List D} {vs ws : List V} {f g : List Addr}, Reps C H ds vs f → Reps C H es ws g → Reps C H (ds ++ es) (vs ++ ws) (f ++ g)
  | [], es, vs, ws, f, g, ⟨h1, h2⟩, r => by subst h1 h2; exact r
  | d :: ds, es, vs, ws, f, g, ⟨v, vs', f1, f2, e, r1, rs, e2⟩, r => by subst e e2; exact ⟨v, vs' ++ ws, f1, f2 ++ g, rfl, r1, reps_append rs r, by simp⟩
def mAppend : D → List D → Option (D × D)
  | .lst .m ds, [x] => if ds.length < sizeLine then some (.lst .m (ds ++ [x]), .non) else none
  | _, _ => none
theorem mu_append : MuOk X "list" rAppend kdL mAppend := by
  refine ⟨?_, ty_list⟩
  intro C H v d fp vs ds fpa Q d' res hC hF r ra nd h k
  unfold mAppend at h
  split at h
  · rename_i ds x
    split at h
    · rename_i hz
      cases h
      obtain ⟨a, ws, f, rfl, hH, rs, rfl⟩ := rep_m r
      obtain ⟨w, rfl, rx⟩ := reps1 ra
      have m := Mono.upd (o := .lst (ws ++ [w])) hH trivial
      have nda : a ∉ f ++ fpa := by simp at nd ⊢; exact ⟨nd.1.1, nd.1.2⟩
      have kp : ∀ b ∈ f ++ fpa, upd H a (.lst (ws ++ [w])) b = H b := fun b hb => upd_ne (fun z => nda (z ▸ hb))
      refine ⟨a, ws, w, rfl, rfl, hH, by rw [← reps_length rs]; exact hz, ?_⟩
      refine k _ .non (a :: (f ++ fpa)) [] m (fun b o e hb => ?_) ⟨a, _, [a], _, rfl, ⟨upd_same, rfl⟩, reps_append (rs.keep (fun b hb => kp b (by simp [hb])) m) ⟨w, [], fpa, [], rfl, rx.keep (fun b hb => kp b (by simp [hb])) m, ⟨rfl, rfl⟩, by simp⟩, .inl rfl, rfl⟩ ⟨rfl, rfl⟩ (by simpa using nd) fun b hb => ?_
      · rw [upd_ne (fun z => hb (by simp [z]))]; exact e
      · simp at hb ⊢
        rcases hb with z | z | z <;> simp [z]
    · cases h
  · cases h
def mPop : D → List D → Option (D × D)
  | .lst .m ds, [] => (ds[ds.length - 1]?).map fun x => (.lst .m ds.dropLast, x)
  | _, _ => none
theorem reps_last : ∀ {ds : List D} {vs : List V} {f : List Addr} {x : D}, Reps C H ds vs f → ds[ds.length - 1]? = some x → ∃ w g h, vs[vs.length - 1]? = some w ∧ Rep C H x w h ∧ Reps C H ds.dropLast vs.dropLast g ∧ f = g ++ h
  | [], vs, f, x, _, h => by simp at h
  | [d], vs, f, x, ⟨v, vs', f1, f2, e, r, ⟨e3, e4⟩, e2⟩, h => by
    simp at h; subst h; subst e3 e4 e e2
    exact ⟨v, [], f1, by simp, r, ⟨rfl, rfl⟩, by simp⟩
  | d :: d2 :: ds, vs, f, x, ⟨v, vs', f1, f2, e, r, rs, e2⟩, h => by
    subst e e2
    obtain ⟨w, g, h', h1, h2, h3, h4⟩ := reps_last (x := x) rs (by simpa using h)
    obtain ⟨v2, vs2, _, _, e3, _⟩ := rs
    subst e3
    exact ⟨w, f1 ++ g, h', by simpa using h1, h2, ⟨v, (v2 :: vs2).dropLast, f1, g, by simp, r, h3, rfl⟩, by rw [h4]; simp⟩
theorem mu_pop : MuOk X "list" rPop kdL mPop := by
  refine ⟨?_, ty_list⟩
  intro C H v d fp vs ds fpa Q d' res hC hF r ra nd h k
  unfold mPop at h
  split at h
  · rename_i ds
    obtain ⟨x, hx, h⟩ := Option.map_eq_some_iff.mp h
    cases h
    obtain ⟨a, ws, f, rfl, hH, rs, rfl⟩ := rep_m r
    obtain ⟨rfl, rfl⟩ := ra
    obtain ⟨w, g, h', h1, h2, h3, h4⟩ := reps_last rs hx
    have m := Mono.upd (o := .lst ws.dropLast) hH trivial
    have nda : a ∉ f := by simp at nd ⊢; exact nd.1
    have kp : ∀ b ∈ f, upd H a (.lst ws.dropLast) b = H b := fun b hb => upd_ne (fun z => nda (z ▸ hb))
    refine ⟨a, ws, w, rfl, rfl, hH, h1, ?_⟩
    subst h4
    refine k _ w (a :: g) h' m (fun b o e hb => ?_) ⟨a, _, [a], g, rfl, ⟨upd_same, rfl⟩, h3.keep (fun b hb => kp b (by simp [hb])) m, .inl rfl, rfl⟩ (h2.keep (fun b hb => kp b (by simp [hb])) m) (by simpa using nd) fun b hb => ?_
    · rw [upd_ne (fun z => hb (by simp [z]))]; exact e
    · left; simpa using hb
  · cases h

/-! ### a store into a place -/
def putD (ks : List Key) (ds : List D) (k : Key) (x : D) : D := match idxK ks k with
  | some j => .dct .m ks (ds.set j x)
  | none => .dct .m (ks ++ [k]) (ds ++ [x])
def stD : D → D → D → Option D
  | .lst .m ds, .int k, x => (ixN ds.length k).map fun j => .lst .m (ds.set j x)
  | .dct .m ks ds, k, x => k.key.bind fun k => if ks.length < sizeLine then some (putD ks ds k x) else none
  | _, _, _ => none
end
end VS

set_option maxRecDepth 100000
namespace VS
open PySem L2 SeqAt
section
variable {X : Cx} {W : WX} {M M1 M2 M3 V1 V2 V3 Rs R1 R2 R3 : List Nat} {e a b c tg o : Expr} {es : List Expr} {ca cb cc : CE} {cs : CA} {pos p : Pos} {cl : CL} {i : Nat}
variable {pins : List (Addr × Obj)} {σ : St} {H H1 H2 H' : Hp} {s : Shared} {C C' : Ctx} {fs fs1 fs2 : FPs} {env env1 env2 : Env} {tf tf' own : List Addr}
def rSetD : V → V → V → Hp → (Hp → Prop) → Prop := fun o i v H Q => ∃ a H', o = .ref a ∧ DPut H a i v H' ∧ Q H'
theorem set_dict {k : Nat} (hr : Room k X.A) : PSet X rSetD := by
  intro pins s σ H o i v ov iv u Q I ro ri rv ⟨a, H', e, g, q⟩
  subst e
  cases (show ov = Value.ref a from ro)
  exact d_setItem (by have := hr.units; omega) I g ri rv fun s' I' => ⟨H', I', q⟩
theorem set_any {k : Nat} (hr : Room k X.A) : PSet X (fun o i v H Q => rSetL o i v H Q ∨ rSetD o i v H Q) := by
  intro pins s σ H o i v ov iv u Q I ro ri rv h
  rcases h with h | h
  · exact set_list pins s σ H o i v ov iv u Q I ro ri rv h
  · exact set_dict hr pins s σ H o i v ov iv u Q I ro ri rv h
theorem map_snd_set {kvs : List (Key × V)} {j : Nat} {k : Key} {v : V} : (kvs.set j (k, v)).map (·.2) = (kvs.map (·.2)).set j v := by
  rw [List.map_set]
theorem map_fst_set {kvs : List (Key × V)} {j : Nat} {k : Key} {v : V} (h : (kvs[j]?).map (·.1) = some k) : (kvs.set j (k, v)).map (·.1) = kvs.map (·.1) := by
  rw [List.map_set]
  have hj : j < kvs.length := by
    by_cases q : j < kvs.length
    · exact q
    · rw [List.getElem?_eq_none (by omega)] at h; simp at h
  have : (kvs.map (·.1))[j]'(by simpa using hj) = k := by
    rw [List.getElem?_eq_getElem hj] at h
    simpa using h
  conv => rhs; rw [← List.set_getElem_self (as := kvs.map (·.1)) (i := j) (by simpa using hj)]
  rw [this]
theorem idx_at : ∀ {ks : List Key} {k : Key} {j : Nat}, idxK ks k = some j → ks[j]? = some k
  | [], k, j, h => by simp [idxK] at h
  | k0 :: ks, k, j, h => by
    simp only [idxK] at h
    by_cases e : k0 = k
    · rw [if_pos e] at h; cases h; simp [e]
    · rw [if_neg e] at h
      obtain ⟨j', h', rfl⟩ := Option.map_eq_some_iff.mp h
      simpa using idx_at h'
theorem idx_not : ∀ {ks : List Key} {k : Key}, idxK ks k = none → k ∉ ks
  | [], k, _ => by simp
  | k0 :: ks, k, h => by
    simp only [idxK] at h
    by_cases e : k0 = k
    · rw [if_pos e] at h; cases h
    · rw [if_neg e] at h
      have := idx_not (ks := ks) (k := k) (by simpa using h)
      simp [this, Ne.symm e]
theorem st_ok {d y x d' : D} {v w vx : V} {fp fw fx} (hC : C.At X) (hF : Fr C H) (r : Rep C H d v fp) (ry : Rep C H y w fw) (rx : Rep C H x vx fx) (nd : (fp ++ fx).Nodup) (h : stD d y x = some d') {Q : Hp → Prop}
    (k : ∀ H' fp', Mono H H' → (∀ a o, H a = some o → a ∉ fp → H' a = some o) → Rep C H' d' v fp' → fp'.Nodup → (∀ a ∈ fp', a ∈ fp ∨ a ∈ fx) → Q H') : rSetL v w vx H Q ∨ rSetD v w vx H Q := by
  unfold stD at h
  split at h
  · rename_i ds n
    obtain ⟨j, hj, rfl⟩ := Option.map_eq_some_iff.mp h
    obtain ⟨a, vs, f, rfl, hH, rs, rfl⟩ := rep_m r
    obtain ⟨rfl, _⟩ := ry
    have hjl : j < ds.length := (ixN_seq hj).2.1
    obtain ⟨w', g1, fo, g2, h1, h2, h3, h4⟩ := reps_set rs (j := j) (x := ds[j]) (by simp [hjl])
    have m := Mono.upd (o := .lst (vs.set j vx)) hH trivial
    subst h3
    have nda : a ∉ g1 ++ fo ++ g2 ++ fx := by simp at nd ⊢; exact ⟨nd.1.1, nd.1.2.1, nd.1.2.2.1, nd.1.2.2.2⟩
    refine .inl ⟨a, vs, n, j, rfl, rfl, hH, by rw [← reps_length rs]; exact hj, ?_⟩
    have kp : ∀ b, b ≠ a → upd H a (.lst (vs.set j vx)) b = H b := fun b hb => upd_ne hb
    refine k _ (a :: (g1 ++ fx ++ g2)) m (fun b o e hb => ?_) ⟨a, _, [a], _, rfl, ⟨upd_same, rfl⟩, h4 _ x vx fx m (fun b hb => kp b ?_) (rx.keep (fun b hb => kp b ?_) m), .inl rfl, rfl⟩ ?_ ?_
    · rw [kp b (fun z => hb (by simp [z]))]; exact e
    · intro z; subst z; exact nda (by simp at hb ⊢; rcases hb with z | z <;> simp [z])
    · intro z; subst z; exact nda (by simp [hb])
    · have p : (a :: (g1 ++ fx ++ g2) ++ fo).Perm (a :: (g1 ++ fo ++ g2) ++ fx) := by
        refine List.Perm.cons a ?_
        show ((g1 ++ fx ++ g2) ++ fo).Perm ((g1 ++ fo ++ g2) ++ fx)
        simp only [List.append_assoc]
        refine List.Perm.append_left g1 ?_
        have a1 : (fx ++ (g2 ++ fo)).Perm ((g2 ++ fo) ++ fx) := List.perm_append_comm
        refine a1.trans ?_
        rw [List.append_assoc]
        exact List.perm_append_comm_assoc _ _ _
      exact (List.nodup_append.mp (p.nodup_iff.mpr nd)).1
    · intro b hb
      simp at hb ⊢
      rcases hb with z | z | z | z <;> simp [z]
  · rename_i ks ds
    obtain ⟨ky, hk, h⟩ := Option.bind_eq_some_iff.mp h
    split at h
    case isFalse => cases h
    rename_i hz
    cases h
    obtain ⟨a, kvs, f1, f, rfl, ⟨hH, rfl⟩, ⟨hks, hnd⟩, rs, _, rfl⟩ := r
    have ey := key_of hk ry
    have hl : kvs.length < sizeLine := by
      have : kvs.length = ks.length := by rw [← hks]; simp
      omega
    have m := Mono.upd (o := .dK (putK kvs ky vx)) hH trivial
    have kp : ∀ b, b ≠ a → upd H a (.dK (putK kvs ky vx)) b = H b := fun b hb => upd_ne hb
    refine .inr ⟨a, _, rfl, .inl ⟨kvs, ky, hH, ey, hl, rfl⟩, ?_⟩
    cases q : idxK ks ky with
    | some j =>
      have ed : putD ks ds ky x = .dct .m ks (ds.set j x) := by unfold putD; rw [q]
      rw [ed] at k
      have q' := q
      rw [← hks] at q'
      have hn : (kvs.map (·.1)).Nodup := by rw [hks]; exact hnd
      have e1 := idx_nodup (v := vx) hn q'
      have hj := (idx_val q').2
      have hjd : j < ds.length := by rw [reps_length rs]; simpa using hj
      obtain ⟨w', g1, fo, g2, h1, h2, h3, h4⟩ := reps_set rs (j := j) (x := ds[j]) (by simp [hjd])
      subst h3
      have nda : a ∉ g1 ++ fo ++ g2 ++ fx := by simp at nd ⊢; exact ⟨nd.1.1, nd.1.2.1, nd.1.2.2.1, nd.1.2.2.2⟩
      refine k _ (a :: (g1 ++ fx ++ g2)) m (fun b o e hb => ?_) ⟨a, putK kvs ky vx, [a], _, rfl, ⟨upd_same, rfl⟩, ⟨?_, hnd⟩, ?_, .inl rfl, rfl⟩ ?_ ?_
      · rw [kp b (fun z => hb (by simp [z]))]; exact e
      · rw [e1, map_fst_set, hks]
        have := idx_at q'
        rw [List.getElem?_map] at this; exact this
      · have hs2 : (putK kvs ky vx).map (·.2) = (kvs.map (·.2)).set j vx := by rw [e1, map_snd_set]
        rw [hs2]
        refine h4 _ x vx fx m (fun b hb => kp b ?_) (rx.keep (fun b hb => kp b ?_) m)
        · intro z; subst z; exact nda (by simp at hb ⊢; rcases hb with z | z <;> simp [z])
        · intro z; subst z; exact nda (by simp [hb])
      · have p : (a :: (g1 ++ fx ++ g2) ++ fo).Perm (a :: (g1 ++ fo ++ g2) ++ fx) := by
          refine List.Perm.cons a ?_
          show ((g1 ++ fx ++ g2) ++ fo).Perm ((g1 ++ fo ++ g2) ++ fx)
          simp only [List.append_assoc]
          refine List.Perm.append_left g1 ?_
          have a1 : (fx ++ (g2 ++ fo)).Perm ((g2 ++ fo) ++ fx) := List.perm_append_comm
          refine a1.trans ?_
          rw [List.append_assoc]
          exact List.perm_append_comm_assoc _ _ _
        exact (List.nodup_append.mp (p.nodup_iff.mpr (by simpa using nd))).1
      · intro b hb
        simp at hb ⊢
        rcases hb with z | z | z | z <;> simp [z]
    | none =>
      have ed : putD ks ds ky x = .dct .m (ks ++ [ky]) (ds ++ [x]) := by unfold putD; rw [q]
      rw [ed] at k
      have q' := q
      rw [← hks] at q'
      have e1 := putK_new vx (idx_none q')
      have nda : a ∉ f ++ fx := by simp at nd ⊢; exact ⟨nd.1.1, nd.1.2⟩
      refine k _ (a :: (f ++ fx)) m (fun b o e hb => ?_) ⟨a, putK kvs ky vx, [a], _, rfl, ⟨upd_same, rfl⟩, ⟨by rw [e1, List.map_append, hks]; rfl, ?_⟩, ?_, .inl rfl, rfl⟩ (by simpa using nd) ?_
      · rw [kp b (fun z => hb (by simp [z]))]; exact e
      · refine List.nodup_append.mpr ⟨hnd, by simp, fun x hx y hy e => ?_⟩
        simp at hy; subst hy; subst e
        exact idx_not q hx
      · have hs2 : (putK kvs ky vx).map (·.2) = kvs.map (·.2) ++ [vx] := by rw [e1, List.map_append]; rfl
        rw [hs2]
        refine reps_append (rs.keep (fun b hb => kp b ?_) m) ⟨vx, [], fx, [], rfl, rx.keep (fun b hb => kp b ?_) m, ⟨rfl, rfl⟩, by simp⟩
        · intro z; subst z; exact nda (by simp [hb])
        · intro z; subst z; exact nda (by simp [hb])
      · intro b hb
        simp at hb ⊢
        rcases hb with z | z | z <;> simp [z]
  · cases h
def gSubD (i : Nat) (cl : CL) (cb : CE) : D → Env → Option Env := fun x env => match cl env with
  | .ok dF env1 => match cb env1 with
    | .ok y env2 => (stD dF.1 y x).map fun d' => env2.set i (some (dF.2 d'))
    | _ => none
  | _ => none
theorem sg_sub {k : Nat} {W1 W2 : WX} (hr : Room k X.A) (ho : SL X W1 i M1 o cl) (hb : SB X W2 M2 R2 b cb) (hi : djB [i] M2 = true := by decide)
    (ha : ∀ v, assign (.Subscript o b pos) X.env v = (do
      let ov ← holding [v] (eval o X.env)
      let iv ← holding [v, ov] (eval b X.env)
      standAt pos
      holding [v, ov, iv] (setItem ov iv v)
      release [v, ov, iv] []) := by intro _; rfl) : SG X (M1 ++ (M2 ++ [i])) [] (.Subscript o b pos) (gSubD i cl cb) := by
  obtain ⟨t, p, q⟩ := ho.go
  obtain ⟨t2, p2, q2⟩ := hb.go
  refine ⟨gSub t t2 _, pg_sub p p2 (set_any hr) ha, fun C fs env σ H tf Q x vx fx hC G rx po => ?_⟩
  unfold gSubD at po
  refine q C fs env σ H (fx ++ tf) _ hC G ?_
  cases e1 : cl env with
  | err => rw [e1] at po; exact po.elim
  | ex z env' => rw [e1] at po; exact po.elim
  | ok dF env1 =>
    rw [e1] at po
    intro v' fs1 H1 d v g1 fp' g2 G1 s1 hd hv hf Fo
    refine q2 C fs1 env1 σ H1 (fx ++ tf) _ hC G1 ?_
    have po1 : PostG C (M1 ++ (M2 ++ [i])) [] tf fs env σ H Q (match cb env1 with
      | .ok y env2 => (stD dF.1 y x).map fun d' => env2.set i (some (dF.2 d'))
      | _ => none) := po
    cases e2 : cb env1 with
    | err => rw [e2] at po1; exact po1.elim
    | ex z env' => rw [e2] at po1; exact po1.elim
    | ok y env2 =>
      rw [e2] at po1
      intro w fs2 H2 fw own G2 s2 rw' iw
      have ni : i ∉ M2 := djB_ok hi i (by simp)
      have Fo2 := Fo.keep s2.m (fun a ha => s2.h i ni a (by rw [hf]; exact ha))
      have hd2 : env2[i]? = some (some d) := by rw [s2.e i ni]; exact hd
      have hf2 : fs2.getD i [] = g1 ++ fp' ++ g2 := by rw [s2.f i ni]; exact hf
      have po2 : PostG C (M1 ++ (M2 ++ [i])) [] tf fs env σ H Q ((stD dF.1 y x).map fun d' => env2.set i (some (dF.2 d'))) := po1
      cases e3 : stD dF.1 y x with
      | none => rw [e3] at po2; exact po2.elim
      | some d' =>
        rw [e3] at po2
        have G2' : Good C fs2 env2 σ H2 (fx ++ tf) := G2.drop
        have rx2 : Rep C H2 x vx fx := (rx.keep (fun a ha => s1.t a (by simp [ha])) s1.m).keep (fun a ha => s2.t a (by simp [ha])) s2.m
        have inf : ∀ a ∈ fp', a ∈ fs2.getD i [] := fun a ha => by rw [hf2]; simp [ha]
        have ndp : (fp' ++ fx).Nodup := by
          have nd := G2'.nd
          refine List.nodup_append.mpr ⟨?_, (List.nodup_append.mp (List.nodup_append.mp nd).2.1).1, fun a ha b hb eab => ?_⟩
          · have := (List.nodup_append.mp nd).1
            have := (flat_get fs2 (G2'.lt hd2)).nodup_iff.mp this
            have := (List.nodup_append.mp this).1
            rw [hf2] at this
            exact (List.nodup_append.mp (List.nodup_append.mp this).1).2.1
          · subst eab; exact G2'.apartT (inf a ha) (by simp [hb])
        refine st_ok hC G2.fr Fo2.here rw' rx2 ndp e3 fun H3 fp3 m3 ch r3 nd3 sub3 => ?_
        have tfk : ∀ a ∈ tf, H3 a = H2 a := fun a ha => by
          obtain ⟨o, e, _⟩ := G2'.trk a (by simp [ha])
          rw [e]; exact ch a o e fun hx => G2'.apartT (inf a hx) (by simp [ha])
        have Gn : Good C (fs2.set i (g1 ++ fp3 ++ g2)) (env2.set i (some (dF.2 d'))) σ H3 tf := by
          refine G2'.mut hd2 hv hf2 Fo2 m3 ch r3 ?_ ?_ ?_
          · refine List.nodup_append.mpr ⟨nd3, (List.nodup_append.mp (List.nodup_append.mp G2'.nd).2.1).2.1, fun a ha b hb eab => ?_⟩
            subst eab
            rcases sub3 a ha with z | z
            · exact G2'.apartT (inf a z) (by simp [hb])
            · exact (List.nodup_append.mp (List.nodup_append.mp G2'.nd).2.1).2.2 a z a hb rfl
          · intro a ha
            rcases List.mem_append.mp ha with z | z
            · rcases sub3 a z with w | w
              · exact .inl w
              · exact .inr (.inl (by simp [w]))
            · exact .inr (.inl (by simp [z]))
          · intro a ha
            rw [tfk a ha]; exact G2'.trk a (by simp [ha])
        have sn : Step [i] tf fs2 env2 H2 (fs2.set i (g1 ++ fp3 ++ g2)) (env2.set i (some (dF.2 d'))) H3 := Step.mut (d := d) G2' hd2 hf2 m3 ch
        have w1 := s1.weak (M' := M1) (tf' := tf) (fun _ z => z) fun x hx => by simp [hx]
        have w2 := s2.weak (M' := M2) (tf' := tf) (fun _ z => z) fun x hx => by simp [hx]
        have := (w1.trans w2).trans sn
        rw [List.append_assoc] at this
        exact po2 _ σ H3 Gn this.ss
end
end VS

set_option maxRecDepth 100000
namespace VS
open PySem L2 SeqAt
section
variable {X : Cx} {W : WX} {pos : Pos}
/-- a name's value as an owned one: shared where it may be, else moved out -/
def cGet (i : Nat) : CE := fun env => match env[i]? with
  | some (some d) => if d.imm then .ok d env else .ok d (env.set i none)
  | _ => .err
theorem so_get (i : Nat) {x : Str} (hN : X.N[i]? = some x := by rfl) (hv : Vis X.env.scope x := by first | exact Or.inl rfl | exact Or.inr (Or.inl rfl) | exact Or.inr (Or.inr rfl)) (hd : (x == ("__debug__" : Str)) = false := by decide)
    (hcd : (x == ("__classdict__" : Str)) = false := by decide) : SO X W [i] (.Name x pos) (cGet i) := by
  refine ⟨tVar i, pe_var hN hv hd hcd, fun C fs env σ H tf Q hC G po => ?_⟩
  unfold cGet at po
  split at po
  · rename_i d e1
    obtain ⟨v, e2, r⟩ := G.rep i d e1
    split at po
    · rename_i hi
      refine ⟨v, e2, po v fs H [] (by simpa using G) .refl ?_⟩
      have := r.imm hi
      first | exact this | exact this.1 | (subst this; exact r) | (rw [this] at r; exact r)
    · refine ⟨v, e2, po v (fs.set i []) H _ (G.mv e1) ⟨fun _ _ => rfl, fun j hj => ?_, fun j hj => ?_, fun _ _ _ _ => rfl, .refl H⟩ r⟩
      · rw [getD_set fs i j [] (G.lt e1), if_neg (by simpa using hj)]
      · rw [List.getElem?_set, if_neg (by intro z; subst z; simp at hj)]
  · exact po.elim

/-! ### the same with the slot left to be found from the combinator -/
variable {M M1 M2 M3 V1 V2 V3 Rs R1 R2 R3 : List Nat} {e a b c tg : Expr} {es : List Expr} {ca cb cc : CE} {cs : CA} {cr : Env → R (List AV)} {io : List Bool} {i j : Nat} {x y : Str}
theorem ss_parI {px py pt : Pos} {kt k2 pt2} (hc : X.calm = true) (hN : X.N.Nodup) (ha : SAO X W M [a, b] cs) (hi : X.N[i]? = some x := by rfl) (hj : X.N[j]? = some y := by rfl) (hij : i ≠ j := by decide)
    (hx : X.env.scope.names.lookup x = some .local := by rfl) (hy : X.env.scope.names.lookup y = some .local := by rfl)
    (hw : swappedStores [.Tuple [.Name x px, .Name y py] kt pt] (.Tuple [a, b] k2 pt2) X.env = pure (some [x, y]) := by rfl)
    (hs : swapsWithSole [.Tuple [.Name x px, .Name y py] kt pt] (.Tuple [a, b] k2 pt2) pos.line X.env = pure false := by rfl) :
    SS X W (M ++ ([i] ++ [j])) ([i] ++ [j]) (.Assign [.Tuple [.Name x px, .Name y py] kt pt] (.Tuple [a, b] k2 pt2) pos) (sPar i j cs) := ss_par i j hc hN ha hi hj hij hx hy hw hs
theorem ss_setI {pos' : Pos} (hN : X.N.Nodup) (h : SO X W M e ca) (hi : X.N[i]? = some x := by rfl) (hx : Loc X.env.scope x := by first | exact .inl rfl | exact .inr rfl) (hs : swapsWith e (some (.Name x pos')) pos.line X.env = pure false := by rfl) (hf : X.fn x = true ∨ X.env.scope.names.lookup x = some .local := by first | exact .inl rfl | exact .inr rfl | assumption) :
    SS X W (M ++ [i]) [i] (.Assign [.Name x pos'] e pos) (sAsg ca (gSet i)) := ss_set i hN h hi hx hs hf
theorem sri_ioI (hr : SRI X W M2 R2 io es cr) (hN : X.N[i]? = some x := by rfl) (hv : Vis X.env.scope x := by first | exact Or.inl rfl | exact Or.inr (Or.inl rfl) | exact Or.inr (Or.inr rfl)) (hd : (x == ("__debug__" : Str)) = false := by decide)
    (hcd : (x == ("__classdict__" : Str)) = false := by decide) (hs : starEach (.Name x pos :: es) X.env = (false, eval (.Name x pos) X.env) :: starEach es X.env := by rfl) : SRI X W ([i] ++ M2) R2 (true :: io) (.Name x pos :: es) (aOw (cMv i) (some i) cr) := sri_io i hr hN hv hd hcd hs
end
end VS

set_option maxRecDepth 100000
namespace VS
open PySem L2 SeqAt
section
variable {α β : Type} (env : Env) (i j : Nat) (c ca cb cc : CE) (cs : CA) (ct : CT) (ta tb : CT) (d : D) (p q : D → D → Option D) (p1 : D → Option D) (pl : List D → Option D) (s1 s2 : CS) (g : D → Env → Option Env)
@[simp] theorem e_bind1 (a : α) (f : α → Env → R β) : (R.ok a env).bind f = f a env := (rfl)
@[simp] theorem e_bind2 (x : Exn) (f : α → Env → R β) : (R.ex x env : R α).bind f = .ex x env := (rfl)
@[simp] theorem e_bind3 (f : α → Env → R β) : (R.err : R α).bind f = .err := (rfl)
@[simp] theorem e_of1 (a : α) : R.of (some a) env = .ok a env := (rfl)
@[simp] theorem e_of2 : R.of (none : Option α) env = .err := (rfl)
@[simp] theorem e_var : cVar i env = match env[i]? with
  | some (some d) => .ok d env
  | _ => .err := (rfl)
@[simp] theorem e_mv : cMv i env = match env[i]? with
  | some (some d) => .ok d (env.set i none)
  | _ => .err := (rfl)
@[simp] theorem e_get : cGet i env = match env[i]? with
  | some (some d) => if d.imm then .ok d env else .ok d (env.set i none)
  | _ => .err := (rfl)
@[simp] theorem e_k : cK d env = .ok d env := (rfl)
@[simp] theorem e_two : cTwo ca cb env = (ca env).bind fun x env => (cb env).bind fun y env => .ok (x, y) env := (rfl)
@[simp] theorem e_2 : c2 p ca cb env = (cTwo ca cb env).bind fun xy env => R.of (p xy.1 xy.2) env := (rfl)
@[simp] theorem e_1 : c1 p1 ca env = (ca env).bind fun x env => R.of (p1 x) env := (rfl)
@[simp] theorem e_idx : cIdx ca cb env = c2 ixD ca cb env := (rfl)
@[simp] theorem e_imm : cImm c env = (c env).bind fun d env => if d.imm then .ok d env else .err := (rfl)
@[simp] theorem e_nil : cNil env = .ok [] env := (rfl)
@[simp] theorem e_cons : cCons c cs env = (c env).bind fun d env => (cs env).bind fun ds env => .ok (d :: ds) env := (rfl)
@[simp] theorem e_L : cL pl cs env = (cs env).bind fun ds env => R.of (pl ds) env := (rfl)
@[simp] theorem e_tup : cTup cs env = (cs env).bind fun ds env => if ds.length ≤ sizeLine then .ok (.tup ds) env else .err := (rfl)
@[simp] theorem e_lst : cLst cs env = (cs env).bind fun ds env => if ds.length ≤ sizeLine then .ok (.lst .m ds) env else .err := (rfl)
@[simp] theorem e_tt : cTt ca env = (ca env).bind fun d env => R.of d.tt env := (rfl)
@[simp] theorem e_tt1 (b : Bool) : D.tt (.bl b) = some b := (rfl)
@[simp] theorem e_tand : tcAnd ta tb env = (ta env).bind fun b env => if b = true then tb env else .ok false env := (rfl)
@[simp] theorem e_tor : tcOr ta tb env = (ta env).bind fun b env => if b = true then .ok true env else tb env := (rfl)
@[simp] theorem e_tnot : tcNot ta env = (ta env).bind fun b env => .ok (!b) env := (rfl)
@[simp] theorem e_and : cAnd ca cb env = (ca env).bind fun d env => match d with
  | .bl true => cb env
  | .bl false => .ok (.bl false) env
  | _ => .err := (rfl)
@[simp] theorem e_or : cOr ca cb env = (ca env).bind fun d env => match d with
  | .bl true => .ok (.bl true) env
  | .bl false => cb env
  | _ => .err := (rfl)
@[simp] theorem e_not : cNot ca env = (ca env).bind fun d env => match d with
  | .bl b => .ok (.bl (!b)) env
  | _ => .err := (rfl)
@[simp] theorem e_chain : cChain p q ca cb cc env = (cTwo ca cb env).bind fun xy env => match p xy.1 xy.2 with
  | some (.bl true) => (cc env).bind fun z env => R.of (q xy.2 z) env
  | some (.bl false) => .ok (.bl false) env
  | _ => .err := (rfl)
@[simp] theorem e_if : cIf ct ca cb env = (ct env).bind fun k env => if k = true then ca env else cb env := (rfl)
@[simp] theorem e_anil : aNil env = .ok [] env := (rfl)
@[simp] theorem e_aro (cr : Env → R (List AV)) : aRo ca cr env = (ca env).bind fun d env => (cr env).bind fun as env => .ok (.ro d :: as) env := (rfl)
@[simp] theorem e_aow (wb : Option Nat) (cr : Env → R (List AV)) : aOw ca wb cr env = (ca env).bind fun d env => (cr env).bind fun as env => .ok (.ow d wb :: as) env := (rfl)
@[simp] theorem e_call (φ : List D → FR) (cr : Env → R (List AV)) : cCall φ cr env = (cr env).bind fun avs env => callEnd avs env (φ (avs.map AV.d)) := (rfl)
@[simp] theorem e_end1 (avs : List AV) (r : D) (os : List D) : callEnd avs env (.ok r os) = if r.nol && nols os then (match putBack avs os env with
    | some env' => .ok r env'
    | none => .err) else .err := (rfl)
@[simp] theorem e_end2 (avs : List AV) (x : Exn) (os : List D) : callEnd avs env (.ex x os) = if nols os then (match putBack avs os env with
    | some env' => .ex x env'
    | none => .err) else .err := (rfl)
@[simp] theorem e_ro (d : D) : AV.d (.ro d) = d.lend := (rfl)
@[simp] theorem e_ow (d : D) (wb : Option Nat) : AV.d (.ow d wb) = d := (rfl)
@[simp] theorem e_pb0 : putBack [] [] env = some env := (rfl)
@[simp] theorem e_pb1 (d : D) (as : List AV) (os : List D) : putBack (.ro d :: as) os env = putBack as os env := by
  cases as <;> cases os <;> rfl
@[simp] theorem e_pb2 (d o : D) (as : List AV) (os : List D) : putBack (.ow d (some i) :: as) (o :: os) env = putBack as os (env.set i (some o)) := (rfl)
@[simp] theorem e_pb3 (d o : D) (as : List AV) (os : List D) : putBack (.ow d none :: as) (o :: os) env = putBack as os env := (rfl)
/-! statements -/
@[simp] theorem e_snil : sNil env = .nx env := (rfl)
@[simp] theorem e_seq : sSeq s1 s2 env = (s1 env).bind s2 := (rfl)
@[simp] theorem e_ob1 (f : CS) : (O.nx env).bind f = f env := (rfl)
@[simp] theorem e_ob2 (f : CS) : (O.rt d env).bind f = .rt d env := (rfl)
@[simp] theorem e_ob3 (f : CS) : (O.bk env).bind f = .bk env := (rfl)
@[simp] theorem e_ob4 (f : CS) : (O.ct env).bind f = .ct env := (rfl)
@[simp] theorem e_ob5 (x : Exn) (f : CS) : (O.ex x env).bind f = .ex x env := (rfl)
@[simp] theorem e_ob6 (f : CS) : (O.err).bind f = .err := (rfl)
@[simp] theorem e_expr : sExpr c env = match c env with
  | .ok _ env => .nx env
  | .ex x env => .ex x env
  | .err => .err := (rfl)
@[simp] theorem e_ret : sRet c env = match c env with
  | .ok d env => .rt d env
  | .ex x env => .ex x env
  | .err => .err := (rfl)
@[simp] theorem e_sif : sIf ct s1 s2 env = match ct env with
  | .ok k env => if k = true then s1 env else s2 env
  | .ex x env => .ex x env
  | .err => .err := (rfl)
@[simp] theorem e_gset : gSet i d env = some (env.set i (some d)) := (rfl)
@[simp] theorem e_asg : sAsg c g env = match c env with
  | .ok d env => match g d env with
    | some env => .nx env
    | none => .err
  | .ex x env => .ex x env
  | .err => .err := (rfl)
@[simp] theorem e_par : sPar i j cs env = match cs env with
  | .ok [d, e] env => .nx ((env.set i (some d)).set j (some e))
  | .ok _ _ => .err
  | .ex x env => .ex x env
  | .err => .err := (rfl)
@[simp] theorem e_kills (is : List Nat) : sKills is s1 env = s1 (is.foldl (fun env i => env.set i none) env) := (rfl)
/-! trees -/
@[simp] theorem e_imm1 (i : Int) : (D.int i).imm = true := (rfl)
@[simp] theorem e_imm2 (b : Bool) : (D.bl b).imm = true := (rfl)
@[simp] theorem e_imm3 (s : Str) : (D.str s).imm = true := (rfl)
@[simp] theorem e_imm4 : D.non.imm = true := (rfl)
@[simp] theorem e_imm5 (ds : List D) : (D.tup ds).imm = imms ds := (rfl)
@[simp] theorem e_imm6 (g : Fl) (ds : List D) : (D.lst g ds).imm = ((g == .l || g == .f) && imms ds) := (rfl)
@[simp] theorem e_imms0 : imms [] = true := (rfl)
@[simp] theorem e_imms1 (ds : List D) : imms (d :: ds) = (d.imm && imms ds) := (rfl)
@[simp] theorem e_nol1 (i : Int) : (D.int i).nol = true := (rfl)
@[simp] theorem e_nol2 (b : Bool) : (D.bl b).nol = true := (rfl)
@[simp] theorem e_nol3 (s : Str) : (D.str s).nol = true := (rfl)
@[simp] theorem e_nol4 : D.non.nol = true := (rfl)
@[simp] theorem e_nol5 (ds : List D) : (D.tup ds).nol = nols ds := (rfl)
@[simp] theorem e_nol6 (ds : List D) : (D.lst .m ds).nol = nols ds := (rfl)
@[simp] theorem e_nols0 : nols [] = true := (rfl)
@[simp] theorem e_nols1 (ds : List D) : nols (d :: ds) = (d.nol && nols ds) := (rfl)
@[simp] theorem e_lend1 (i : Int) : (D.int i).lend = .int i := (rfl)
@[simp] theorem e_lend2 (b : Bool) : (D.bl b).lend = .bl b := (rfl)
@[simp] theorem e_lend3 (s : Str) : (D.str s).lend = .str s := (rfl)
@[simp] theorem e_lend4 : D.non.lend = .non := (rfl)
@[simp] theorem e_lend5 (ds : List D) : (D.tup ds).lend = .tup (lends ds) := (rfl)
@[simp] theorem e_lend6 (ds : List D) : (D.lst .m ds).lend = .lst .l (lends ds) := (rfl)
@[simp] theorem e_lend7 (ds : List D) : (D.lst .l ds).lend = .lst .l (lends ds) := (rfl)
@[simp] theorem e_lends0 : lends [] = [] := (rfl)
@[simp] theorem e_lends1 (ds : List D) : lends (d :: ds) = d.lend :: lends ds := (rfl)
@[simp] theorem lends_ints : ∀ ns : List Int, lends (ns.map D.int) = ns.map D.int
  | [] => rfl
  | n :: ns => by simp [lends_ints ns]
@[simp] theorem imms_ints : ∀ ns : List Int, imms (ns.map D.int) = true
  | [] => rfl
  | n :: ns => by simp [imms_ints ns]
/-! primitives on numbers -/
@[simp] theorem e_pI (cc : Int → Int → Bool) (g : Int → Int → Int) (i j : Int) : pI cc g (.int i) (.int j) = if cc i j then some (.int (g i j)) else none := (rfl)
@[simp] theorem e_pIB (g : Int → Int → Bool) (i j : Int) : pIB g (.int i) (.int j) = some (.bl (g i j)) := (rfl)
@[simp] theorem e_neg (i : Int) : pNeg (.int i) = some (.int (-i)) := (rfl)
@[simp] theorem e_eq (i j : Int) : pEq (.int i) (.int j) = some (.bl (i == j)) := (rfl)
@[simp] theorem e_ne (i j : Int) : pNe (.int i) (.int j) = some (.bl (!(i == j))) := (rfl)
@[simp] theorem e_abs (i : Int) : pAbs [.int i] = some (.int (if i < 0 then -i else i)) := (rfl)
@[simp] theorem e_min2 (i j : Int) : pMin2 [.int i, .int j] = some (.int (if j < i then j else i)) := (rfl)
@[simp] theorem e_max2 (i j : Int) : pMax2 [.int i, .int j] = some (.int (if i < j then j else i)) := (rfl)
@[simp] theorem e_int1 (i : Int) : pInt1 [.int i] = some (.int i) := (rfl)
@[simp] theorem e_int2 (b : Bool) : pInt1 [.bl b] = some (.int (if b then 1 else 0)) := (rfl)
@[simp] theorem e_len1 (g : Fl) (ds : List D) : pLen [.lst g ds] = some (.int ds.length) := (rfl)
@[simp] theorem e_len2 (ds : List D) : pLen [.tup ds] = some (.int ds.length) := (rfl)
@[simp] theorem e_ix1 (g : Fl) (ds : List D) (i : Int) : ixD (.lst g ds) (.int i) = atI ds i := (rfl)
@[simp] theorem e_ix2 (ds : List D) (i : Int) : ixD (.tup ds) (.int i) = atI ds i := (rfl)
theorem atI_nat {α : Type} {xs : List α} {k : Nat} (h : k < xs.length) : atI xs (k : Int) = xs[k]? := by
  unfold atI ixN
  rw [if_pos (by omega), if_pos (by omega)]
  simp
@[simp] theorem atI_0 {α : Type} (x : α) (xs : List α) : atI (x :: xs) 0 = some x := by
  have := atI_nat (xs := x :: xs) (k := 0) (by simp); simpa using this
@[simp] theorem atI_1 {α : Type} (x y : α) (xs : List α) : atI (x :: y :: xs) 1 = some y := by
  have := atI_nat (xs := x :: y :: xs) (k := 1) (by simp); simpa using this
@[simp] theorem atI_2 {α : Type} (x y z : α) (xs : List α) : atI (x :: y :: z :: xs) 2 = some z := by
  have := atI_nat (xs := x :: y :: z :: xs) (k := 2) (by simp); simpa using this
@[simp] theorem atI_3 {α : Type} (x y z u : α) (xs : List α) : atI (x :: y :: z :: u :: xs) 3 = some u := by
  have := atI_nat (xs := x :: y :: z :: u :: xs) (k := 3) (by simp); simpa using this
@[simp] theorem atI_4 {α : Type} (x y z u v : α) (xs : List α) : atI (x :: y :: z :: u :: v :: xs) 4 = some v := by
  have := atI_nat (xs := x :: y :: z :: u :: v :: xs) (k := 4) (by simp); simpa using this
theorem sz_ok {n : Nat} (h : n ≤ 1000) : n ≤ sizeLine := Nat.le_of_lt (small1000 h)
@[simp] theorem sz_0 : 0 ≤ sizeLine := sz_ok (by decide)
@[simp] theorem sz_1 : 1 ≤ sizeLine := sz_ok (by decide)
@[simp] theorem sz_2 : 2 ≤ sizeLine := sz_ok (by decide)
@[simp] theorem sz_3 : 3 ≤ sizeLine := sz_ok (by decide)
@[simp] theorem sz_4 : 4 ≤ sizeLine := sz_ok (by decide)
@[simp] theorem sz_5 : 5 ≤ sizeLine := sz_ok (by decide)
@[simp] theorem sz_6 : 6 ≤ sizeLine := sz_ok (by decide)
@[simp] theorem e_isi_i (i : Int) : pIsi [.int i, .ty "int"] = some (.bl true) := (rfl)
@[simp] theorem e_isi_b (i : Int) : pIsi [.int i, .ty "bool"] = some (.bl false) := (rfl)
@[simp] theorem m01a (c : Prop) [Decidable c] : -18446744073709551616 < (if c then (1 : Int) else 0) := by split <;> omega
@[simp] theorem m01b (c : Prop) [Decidable c] : (if c then (1 : Int) else 0) < 18446744073709551616 := by split <;> omega
@[simp] theorem m2a (x : Int) : -18446744073709551616 < x % 40009 + 7 := by omega
@[simp] theorem m2b (x : Int) : x % 40009 + 7 < 18446744073709551616 := by omega
end
end VS

set_option maxRecDepth 100000
set_option maxHeartbeats 0
namespace VS
open PySem L2 SeqAt PySem.Spec PyProof.Rows
def top (i : Nat) : Stmt := PySem.Challenge.pw_joinback_k01_steps_counted.main.body.getD i (.Pass ⟨0, 0, 0, 0⟩)
section
variable {P : Program} {w : World} {K : PySem.W.Frag} {mg : Str → Option Value} {base : Heap}
/-! #### counted -/
abbrev s_counted : Stmt := top 1
theorem sc_counted : FnScope ["turn", "n"] ["turn", "n"] (defScope s_counted) := ⟨rfl, rfl, rfl, by decide +kernel, rfl, by decide +kernel, by decide +kernel⟩
def b_counted : CS := (sSeq (sIf (cTt (c2 pEq (cVar 0) (cK (.int 0)))) (sRet (cGet 1)) sNil) (sRet (c2 pMod (cVar 1) (cVar 0))))
def φ_counted : List D → FR := fnRun 2 [false, false] b_counted
theorem ok_counted {f : Addr} {fd : FuncData} (F : Fun K "counted" "counted" s_counted f fd)   : FnOk P w K mg base (L2.CX P w) 1 f fd ["turn", "n"] (spF K mg [false, false] φ_counted) := by
  refine' fn_ok (M := _) (Vs := _) F sc_counted rfl ?hv fun cdv A outer s H E hr => ?hb
  case hb =>
    have hr : Room 0 (cxOf (L2.CX P w) P w K mg base ["turn", "n"] "counted" (defScope s_counted) f cdv A outer s H E).A := hr
    have hN : (cxOf (L2.CX P w) P w K mg base ["turn", "n"] "counted" (defScope s_counted) f cdv A outer s H E).N.Nodup := sc_counted.nd
    have tk : Takes (cxOf (L2.CX P w) P w K mg base ["turn", "n"] "counted" (defScope s_counted) f cdv A outer s H E) (fun cls d _ H => E cls d H) := takes_of rfl rfl rfl rfl
    have hp : PassesOwn (model (cxOf (L2.CX P w) P w K mg base ["turn", "n"] "counted" (defScope s_counted) f cdv A outer s H E).prog (cxOf (L2.CX P w) P w K mg base ["turn", "n"] "counted" (defScope s_counted) f cdv A outer s H E).w) (cxOf (L2.CX P w) P w K mg base ["turn", "n"] "counted" (defScope s_counted) f cdv A outer s H E).A (cxOf (L2.CX P w) P w K mg base ["turn", "n"] "counted" (defScope s_counted) f cdv A outer s H E).env (cxOf (L2.CX P w) P w K mg base ["turn", "n"] "counted" (defScope s_counted) f cdv A outer s H E).xe := passes_of rfl
    refine' (ss_cons (ss_if (st_cmpD (od_eq hr) (sb_var 0) (SO.sb so_int) (by first | exact nomark _ | rfl) (by decide)) (ss_one (ss_ret (so_get 1))) ss_nil) (ss_one (ss_ret (so_bin od_mod (sb_var 1) (sb_var 0) (by decide)))))
  case hv => decide
/-! #### _law_tape -/
abbrev s__law_tape : Stmt := top 3
theorem sc__law_tape : FnScope ["_law_script", "_law_k", "_law_cell", "_law_digits"] ["_law_script", "_law_k"] (defScope s__law_tape) := ⟨rfl, rfl, rfl, by decide +kernel, rfl, by decide +kernel, by decide +kernel⟩
def b__law_tape : CS := (sSeq (sAsg (cK (.int 0)) (gSet 2)) (sSeq (sIf (cTt (c2 pLtI (cVar 1) (cL pLen (cCons (cVar 0) cNil)))) (sAsg (cImm (cIdx (cVar 0) (cVar 1))) (gSet 2)) sNil) (sSeq (sAsg (c2 pMulI (cL pAbs (cCons (cVar 2) cNil)) (cL pInt1 (cCons (c2 pGeI (cL pAbs (cCons (cVar 2) cNil)) (c2 pPow (cK (.int 10)) (cK (.int 18)))) cNil))) (gSet 3)) (sRet (cLst (cCons (cGet 3) (cCons (c2 pMod (c2 pMulI (c2 pAddI (c2 pAddI (c2 pMod (cVar 2) (cK (.int 2147483647))) (c2 pMulI (cK (.int 7919)) (cVar 1))) (cK (.int 11))) (cK (.int 48271))) (cK (.int 2147483629))) cNil)))))))
def φ__law_tape : List D → FR := fnRun 4 [false, false] b__law_tape
theorem ok__law_tape {f : Addr} {fd : FuncData} (F : Fun K "_law_tape" "_law_tape" s__law_tape f fd) (z_len : mg "len" = none) (z_abs : mg "abs" = none) (z_int : mg "int" = none)  : FnOk P w K mg base (L2.CX P w) 1 f fd ["_law_script", "_law_k"] (spF K mg [false, false] φ__law_tape) := by
  refine' fn_ok (M := _) (Vs := _) F sc__law_tape rfl ?hv fun cdv A outer s H E hr => ?hb
  case hb =>
    have hr : Room 0 (cxOf (L2.CX P w) P w K mg base ["_law_script", "_law_k", "_law_cell", "_law_digits"] "_law_tape" (defScope s__law_tape) f cdv A outer s H E).A := hr
    have hN : (cxOf (L2.CX P w) P w K mg base ["_law_script", "_law_k", "_law_cell", "_law_digits"] "_law_tape" (defScope s__law_tape) f cdv A outer s H E).N.Nodup := sc__law_tape.nd
    have tk : Takes (cxOf (L2.CX P w) P w K mg base ["_law_script", "_law_k", "_law_cell", "_law_digits"] "_law_tape" (defScope s__law_tape) f cdv A outer s H E) (fun cls d _ H => E cls d H) := takes_of rfl rfl rfl rfl
    have hp : PassesOwn (model (cxOf (L2.CX P w) P w K mg base ["_law_script", "_law_k", "_law_cell", "_law_digits"] "_law_tape" (defScope s__law_tape) f cdv A outer s H E).prog (cxOf (L2.CX P w) P w K mg base ["_law_script", "_law_k", "_law_cell", "_law_digits"] "_law_tape" (defScope s__law_tape) f cdv A outer s H E).w) (cxOf (L2.CX P w) P w K mg base ["_law_script", "_law_k", "_law_cell", "_law_digits"] "_law_tape" (defScope s__law_tape) f cdv A outer s H E).A (cxOf (L2.CX P w) P w K mg base ["_law_script", "_law_k", "_law_cell", "_law_digits"] "_law_tape" (defScope s__law_tape) f cdv A outer s H E).env (cxOf (L2.CX P w) P w K mg base ["_law_script", "_law_k", "_law_cell", "_law_digits"] "_law_tape" (defScope s__law_tape) f cdv A outer s H E).xe := passes_of rfl
    refine' (ss_cons (ss_setI hN so_int (by rfl) (by first | exact .inl rfl | exact .inr rfl) (by rfl) (by first | exact .inl rfl | exact .inr rfl | assumption)) (ss_cons (ss_if (st_cmpD od_ltI (sb_var 1) (SO.sb (so_callB od_len (by rfl) z_len (by rfl) (sa_cons (sb_var 0) sa_nil (by decide) (by rfl)) (by decide) (by decide) (by rfl) (by rfl))) (by first | exact nomark _ | rfl) (by decide)) (ss_one (ss_setI hN (SB.imm (sb_idx hr (sb_var 0) (sb_var 1) (by exact fun _ _ => rfl) (by decide))) (by rfl) (by first | exact .inl rfl | exact .inr rfl) (by rfl) (by first | exact .inl rfl | exact .inr rfl | assumption))) ss_nil) (ss_cons (ss_setI hN (so_bin od_mulI (SO.sb (so_callB od_abs (by rfl) z_abs (by rfl) (sa_cons (sb_var 2) sa_nil (by decide) (by rfl)) (by decide) (by decide) (by rfl) (by rfl))) (SO.sb (so_callTy od_int1 (by rfl) z_int (by rfl) (sa_cons (SO.sb (so_cmpD od_geI (SO.sb (so_callB od_abs (by rfl) z_abs (by rfl) (sa_cons (sb_var 2) sa_nil (by decide) (by rfl)) (by decide) (by decide) (by rfl) (by rfl))) (SO.sb (so_bin od_pow (SO.sb so_int) (SO.sb so_int) (by decide))) (by first | exact nomark _ | rfl) (by decide))) sa_nil (by decide) (by rfl)) (by decide) (by decide) (by rfl) (by rfl))) (by decide)) (by rfl) (by first | exact .inl rfl | exact .inr rfl) (by rfl) (by first | exact .inl rfl | exact .inr rfl | assumption)) (ss_one (ss_ret (so_lst (sao_cons (so_get 3) (sao_cons (so_bin od_mod (SO.sb (so_bin od_mulI (SO.sb (so_bin od_addI (SO.sb (so_bin od_addI (SO.sb (so_bin od_mod (sb_var 2) (SO.sb so_int) (by decide))) (SO.sb (so_bin od_mulI (SO.sb so_int) (sb_var 1) (by decide))) (by decide))) (SO.sb so_int) (by decide))) (SO.sb so_int) (by decide))) (SO.sb so_int) (by decide)) sao_nil (by rfl)) (by rfl))))))))
  case hv => decide
/-! #### _law_draw -/
abbrev s__law_draw : Stmt := top 4
theorem sc__law_draw : FnScope ["_law_tape_here", "_law_many", "_law_found", "_law_once"] ["_law_tape_here", "_law_many"] (defScope s__law_draw) := ⟨rfl, rfl, rfl, by decide +kernel, rfl, by decide +kernel, by decide +kernel⟩
def b__law_draw : CS := (sSeq (sIf (cTt (c2 pGtI (cIdx (cVar 0) (cK (.int 0))) (cK (.int 0)))) (sSeq (sAsg (c2 pMod (cIdx (cVar 0) (cK (.int 0))) (cVar 1)) (gSet 2)) (sSeq (sAsg (c2 pDiv (cIdx (cVar 0) (cK (.int 0))) (cVar 1)) (gSubD 0 (lVar 0) (cK (.int 0)))) (sRet (cGet 2)))) sNil) (sSeq (sAsg (c2 pMod (c2 pAddI (c2 pMulI (cIdx (cVar 0) (cK (.int 1))) (cK (.int 48271))) (cK (.int 39373))) (cK (.int 2147483647))) (gSubD 0 (lVar 0) (cK (.int 1)))) (sSeq (sAsg (c2 pMod (c2 pMulI (cIdx (cVar 0) (cK (.int 1))) (c2 pAddI (c2 pMod (cIdx (cVar 0) (cK (.int 1))) (cK (.int 40009))) (cK (.int 7)))) (cK (.int 2147483587))) (gSet 3)) (sRet (c2 pMod (c2 pDiv (cVar 3) (cK (.int 64))) (cVar 1))))))
def φ__law_draw : List D → FR := fnRun 4 [true, false] b__law_draw
theorem ok__law_draw {f : Addr} {fd : FuncData} (F : Fun K "_law_draw" "_law_draw" s__law_draw f fd)   : FnOk P w K mg base (L2.CX P w) 1 f fd ["_law_tape_here", "_law_many"] (spF K mg [true, false] φ__law_draw) := by
  refine' fn_ok (M := _) (Vs := _) F sc__law_draw rfl ?hv fun cdv A outer s H E hr => ?hb
  case hb =>
    have hr : Room 0 (cxOf (L2.CX P w) P w K mg base ["_law_tape_here", "_law_many", "_law_found", "_law_once"] "_law_draw" (defScope s__law_draw) f cdv A outer s H E).A := hr
    have hN : (cxOf (L2.CX P w) P w K mg base ["_law_tape_here", "_law_many", "_law_found", "_law_once"] "_law_draw" (defScope s__law_draw) f cdv A outer s H E).N.Nodup := sc__law_draw.nd
    have tk : Takes (cxOf (L2.CX P w) P w K mg base ["_law_tape_here", "_law_many", "_law_found", "_law_once"] "_law_draw" (defScope s__law_draw) f cdv A outer s H E) (fun cls d _ H => E cls d H) := takes_of rfl rfl rfl rfl
    have hp : PassesOwn (model (cxOf (L2.CX P w) P w K mg base ["_law_tape_here", "_law_many", "_law_found", "_law_once"] "_law_draw" (defScope s__law_draw) f cdv A outer s H E).prog (cxOf (L2.CX P w) P w K mg base ["_law_tape_here", "_law_many", "_law_found", "_law_once"] "_law_draw" (defScope s__law_draw) f cdv A outer s H E).w) (cxOf (L2.CX P w) P w K mg base ["_law_tape_here", "_law_many", "_law_found", "_law_once"] "_law_draw" (defScope s__law_draw) f cdv A outer s H E).A (cxOf (L2.CX P w) P w K mg base ["_law_tape_here", "_law_many", "_law_found", "_law_once"] "_law_draw" (defScope s__law_draw) f cdv A outer s H E).env (cxOf (L2.CX P w) P w K mg base ["_law_tape_here", "_law_many", "_law_found", "_law_once"] "_law_draw" (defScope s__law_draw) f cdv A outer s H E).xe := passes_of rfl
    refine' (ss_cons (ss_if (st_cmpD od_gtI (sb_idx hr (sb_var 0) (SO.sb so_int) (by exact fun _ _ => rfl) (by decide)) (SO.sb so_int) (by first | exact nomark _ | rfl) (by decide)) (ss_cons (ss_setI hN (so_bin od_mod (sb_idx hr (sb_var 0) (SO.sb so_int) (by exact fun _ _ => rfl) (by decide)) (sb_var 1) (by decide)) (by rfl) (by first | exact .inl rfl | exact .inr rfl) (by rfl) (by first | exact .inl rfl | exact .inr rfl | assumption)) (ss_cons (ss_asg (so_bin od_div (sb_idx hr (sb_var 0) (SO.sb so_int) (by exact fun _ _ => rfl) (by decide)) (sb_var 1) (by decide)) (sg_sub hr (W1 := fun cls d _ H => E cls d H) (W2 := fun cls d _ H => E cls d H) (sl_var 0) (SO.sb so_int) (by decide) (by intro _; rfl)) (by rfl) (by rfl) (by rfl)) (ss_one (ss_ret (so_get 2))))) ss_nil) (ss_cons (ss_asg (so_bin od_mod (SO.sb (so_bin od_addI (SO.sb (so_bin od_mulI (sb_idx hr (sb_var 0) (SO.sb so_int) (by exact fun _ _ => rfl) (by decide)) (SO.sb so_int) (by decide))) (SO.sb so_int) (by decide))) (SO.sb so_int) (by decide)) (sg_sub hr (W1 := fun cls d _ H => E cls d H) (W2 := fun cls d _ H => E cls d H) (sl_var 0) (SO.sb so_int) (by decide) (by intro _; rfl)) (by rfl) (by rfl) (by rfl)) (ss_cons (ss_setI hN (so_bin od_mod (SO.sb (so_bin od_mulI (sb_idx hr (sb_var 0) (SO.sb so_int) (by exact fun _ _ => rfl) (by decide)) (SO.sb (so_bin od_addI (SO.sb (so_bin od_mod (sb_idx hr (sb_var 0) (SO.sb so_int) (by exact fun _ _ => rfl) (by decide)) (SO.sb so_int) (by decide))) (SO.sb so_int) (by decide))) (by decide))) (SO.sb so_int) (by decide)) (by rfl) (by first | exact .inl rfl | exact .inr rfl) (by rfl) (by first | exact .inl rfl | exact .inr rfl | assumption)) (ss_one (ss_ret (so_bin od_mod (SO.sb (so_bin od_div (sb_var 3) (SO.sb so_int) (by decide))) (sb_var 1) (by decide)))))))
  case hv => decide
/-! #### _law_number -/
abbrev s__law_number : Stmt := top 5
theorem sc__law_number : FnScope ["_law_tape_here", "_law_turn", "_law_way"] ["_law_tape_here", "_law_turn"] (defScope s__law_number) := ⟨rfl, rfl, rfl, by decide +kernel, rfl, by decide +kernel, by decide +kernel⟩
def b__law_number : CS := (sSeq (sAsg (cCall φ__law_draw (aOw (cMv 0) (some 0) (aRo (cK (.int 4)) aNil))) (gSet 2)) (sSeq (sIf (cTt (c2 pEq (cVar 2) (cK (.int 0)))) (sRet (c2 pSub (cCall φ__law_draw (aOw (cMv 0) (some 0) (aRo (cK (.int 9)) aNil))) (cK (.int 4)))) sNil) (sSeq (sIf (cTt (c2 pEq (cVar 2) (cK (.int 1)))) (sRet (c2 pSub (c2 pAddI (c2 pMulI (cVar 1) (c2 pSub (cCall φ__law_draw (aOw (cMv 0) (some 0) (aRo (cK (.int 2001)) aNil))) (cK (.int 1000)))) (cCall φ__law_draw (aOw (cMv 0) (some 0) (aRo (cK (.int 3)) aNil)))) (cK (.int 1)))) sNil) (sRet (c2 pMulI (c2 pAddI (cCall φ__law_draw (aOw (cMv 0) (some 0) (aRo (c2 pPow (cK (.int 10)) (cK (.int 12))) aNil))) (cK (.int 1))) (cIdx (cLst (cCons (cK (.int 1)) (cCons (c1 pNeg (cK (.int 1))) cNil))) (cCall φ__law_draw (aOw (cMv 0) (some 0) (aRo (cK (.int 2)) aNil)))))))))
def φ__law_number : List D → FR := fnRun 3 [true, false] b__law_number
theorem ok__law_number {f : Addr} {fd : FuncData} (F : Fun K "_law_number" "_law_number" s__law_number f fd)  (d__law_draw : Fd P w K mg base 1 "_law_draw" ["_law_tape_here", "_law_many"] [true, false] φ__law_draw) : FnOk P w K mg base (L2.CX P w) 2 f fd ["_law_tape_here", "_law_turn"] (spF K mg [true, false] φ__law_number) := by
  refine' fn_ok (M := _) (Vs := _) F sc__law_number rfl ?hv fun cdv A outer s H E hr => ?hb
  case hb =>
    have hr : Room 1 (cxOf (L2.CX P w) P w K mg base ["_law_tape_here", "_law_turn", "_law_way"] "_law_number" (defScope s__law_number) f cdv A outer s H E).A := hr
    have hN : (cxOf (L2.CX P w) P w K mg base ["_law_tape_here", "_law_turn", "_law_way"] "_law_number" (defScope s__law_number) f cdv A outer s H E).N.Nodup := sc__law_number.nd
    have tk : Takes (cxOf (L2.CX P w) P w K mg base ["_law_tape_here", "_law_turn", "_law_way"] "_law_number" (defScope s__law_number) f cdv A outer s H E) (fun cls d _ H => E cls d H) := takes_of rfl rfl rfl rfl
    have hp : PassesOwn (model (cxOf (L2.CX P w) P w K mg base ["_law_tape_here", "_law_turn", "_law_way"] "_law_number" (defScope s__law_number) f cdv A outer s H E).prog (cxOf (L2.CX P w) P w K mg base ["_law_tape_here", "_law_turn", "_law_way"] "_law_number" (defScope s__law_number) f cdv A outer s H E).w) (cxOf (L2.CX P w) P w K mg base ["_law_tape_here", "_law_turn", "_law_way"] "_law_number" (defScope s__law_number) f cdv A outer s H E).A (cxOf (L2.CX P w) P w K mg base ["_law_tape_here", "_law_turn", "_law_way"] "_law_number" (defScope s__law_number) f cdv A outer s H E).env (cxOf (L2.CX P w) P w K mg base ["_law_tape_here", "_law_turn", "_law_way"] "_law_number" (defScope s__law_number) f cdv A outer s H E).xe := passes_of rfl
    have D__law_draw : Fd P w K mg base 1 "_law_draw" _ _ φ__law_draw := d__law_draw.mono (by decide)
    refine' (ss_cons (ss_setI hN (so_call D__law_draw hr tk (sri_ioI (sri_ro (SO.sb so_int) sri_nil (by decide) (by rfl)) (by rfl) (by first | exact Or.inl rfl | exact Or.inr (Or.inl rfl) | exact Or.inr (Or.inr rfl)) (by decide) (by decide) (by rfl)) (by rfl) (by decide) (by rfl) (by rfl)) (by rfl) (by first | exact .inl rfl | exact .inr rfl) (by rfl) (by first | exact .inl rfl | exact .inr rfl | assumption)) (ss_cons (ss_if (st_cmpD (od_eq hr) (sb_var 2) (SO.sb so_int) (by first | exact nomark _ | rfl) (by decide)) (ss_one (ss_ret (so_bin od_sub (SO.sb (so_call D__law_draw hr tk (sri_ioI (sri_ro (SO.sb so_int) sri_nil (by decide) (by rfl)) (by rfl) (by first | exact Or.inl rfl | exact Or.inr (Or.inl rfl) | exact Or.inr (Or.inr rfl)) (by decide) (by decide) (by rfl)) (by rfl) (by decide) (by rfl) (by rfl))) (SO.sb so_int) (by decide)))) ss_nil) (ss_cons (ss_if (st_cmpD (od_eq hr) (sb_var 2) (SO.sb so_int) (by first | exact nomark _ | rfl) (by decide)) (ss_one (ss_ret (so_bin od_sub (SO.sb (so_bin od_addI (SO.sb (so_bin od_mulI (sb_var 1) (SO.sb (so_bin od_sub (SO.sb (so_call D__law_draw hr tk (sri_ioI (sri_ro (SO.sb so_int) sri_nil (by decide) (by rfl)) (by rfl) (by first | exact Or.inl rfl | exact Or.inr (Or.inl rfl) | exact Or.inr (Or.inr rfl)) (by decide) (by decide) (by rfl)) (by rfl) (by decide) (by rfl) (by rfl))) (SO.sb so_int) (by decide))) (by decide))) (SO.sb (so_call D__law_draw hr tk (sri_ioI (sri_ro (SO.sb so_int) sri_nil (by decide) (by rfl)) (by rfl) (by first | exact Or.inl rfl | exact Or.inr (Or.inl rfl) | exact Or.inr (Or.inr rfl)) (by decide) (by decide) (by rfl)) (by rfl) (by decide) (by rfl) (by rfl))) (by decide))) (SO.sb so_int) (by decide)))) ss_nil) (ss_one (ss_ret (so_bin od_mulI (SO.sb (so_bin od_addI (SO.sb (so_call D__law_draw hr tk (sri_ioI (sri_ro (SO.sb (so_bin od_pow (SO.sb so_int) (SO.sb so_int) (by decide))) sri_nil (by decide) (by rfl)) (by rfl) (by first | exact Or.inl rfl | exact Or.inr (Or.inl rfl) | exact Or.inr (Or.inr rfl)) (by decide) (by decide) (by rfl)) (by rfl) (by decide) (by rfl) (by rfl))) (SO.sb so_int) (by decide))) (sb_idx hr (SO.sb (so_lst (sao_cons so_int (sao_cons (so_neg (SO.sb so_int)) sao_nil (by rfl)) (by rfl)))) (SO.sb (so_call D__law_draw hr tk (sri_ioI (sri_ro (SO.sb so_int) sri_nil (by decide) (by rfl)) (by rfl) (by first | exact Or.inl rfl | exact Or.inr (Or.inl rfl) | exact Or.inr (Or.inr rfl)) (by decide) (by decide) (by rfl)) (by rfl) (by decide) (by rfl) (by rfl))) (by exact fun _ _ => rfl) (by decide)) (by decide)))))))
  case hv => decide
/-! #### _law_right -/
abbrev s__law_right : Stmt := top 6
theorem sc__law_right : FnScope ["_law_turn", "_law_n", "_law_found"] ["_law_turn", "_law_n"] (defScope s__law_right) := ⟨rfl, rfl, rfl, by decide +kernel, rfl, by decide +kernel, by decide +kernel⟩
def b__law_right : CS := (sSeq (sAsg (cCall φ_counted (aRo (cVar 0) (aRo (cVar 1) aNil))) (gSet 2)) (sSeq (sIf (tcOr (tcNot (cTt (cL pIsi (cCons (cVar 2) (cCons (cK (.ty "int")) cNil))))) (cTt (cL pIsi (cCons (cVar 2) (cCons (cK (.ty "bool")) cNil))))) (sRet (cK (.bl false))) sNil) (sSeq (sIf (cTt (c2 pEq (cVar 0) (cK (.int 0)))) (sRet (c2 pEq (cVar 2) (cVar 1))) sNil) (sRet (cAnd (cChain pLeI pLtI (cK (.int 0)) (cVar 2) (cVar 0)) (cAnd (c2 pEq (c2 pMod (c2 pSub (cVar 1) (cVar 2)) (cVar 0)) (cK (.int 0))) (c2 pEq (cCall φ_counted (aRo (cVar 0) (aRo (cVar 2) aNil))) (cVar 2))))))))
def φ__law_right : List D → FR := fnRun 3 [false, false] b__law_right
theorem ok__law_right {f : Addr} {fd : FuncData} (F : Fun K "_law_right" "_law_right" s__law_right f fd) (z_int : mg "int" = none) (z_isinstance : mg "isinstance" = none) (z_bool : mg "bool" = none) (d_counted : Fd P w K mg base 1 "counted" ["turn", "n"] [false, false] φ_counted) : FnOk P w K mg base (L2.CX P w) 2 f fd ["_law_turn", "_law_n"] (spF K mg [false, false] φ__law_right) := by
  refine' fn_ok (M := _) (Vs := _) F sc__law_right rfl ?hv fun cdv A outer s H E hr => ?hb
  case hb =>
    have hr : Room 1 (cxOf (L2.CX P w) P w K mg base ["_law_turn", "_law_n", "_law_found"] "_law_right" (defScope s__law_right) f cdv A outer s H E).A := hr
    have hN : (cxOf (L2.CX P w) P w K mg base ["_law_turn", "_law_n", "_law_found"] "_law_right" (defScope s__law_right) f cdv A outer s H E).N.Nodup := sc__law_right.nd
    have tk : Takes (cxOf (L2.CX P w) P w K mg base ["_law_turn", "_law_n", "_law_found"] "_law_right" (defScope s__law_right) f cdv A outer s H E) (fun cls d _ H => E cls d H) := takes_of rfl rfl rfl rfl
    have hp : PassesOwn (model (cxOf (L2.CX P w) P w K mg base ["_law_turn", "_law_n", "_law_found"] "_law_right" (defScope s__law_right) f cdv A outer s H E).prog (cxOf (L2.CX P w) P w K mg base ["_law_turn", "_law_n", "_law_found"] "_law_right" (defScope s__law_right) f cdv A outer s H E).w) (cxOf (L2.CX P w) P w K mg base ["_law_turn", "_law_n", "_law_found"] "_law_right" (defScope s__law_right) f cdv A outer s H E).A (cxOf (L2.CX P w) P w K mg base ["_law_turn", "_law_n", "_law_found"] "_law_right" (defScope s__law_right) f cdv A outer s H E).env (cxOf (L2.CX P w) P w K mg base ["_law_turn", "_law_n", "_law_found"] "_law_right" (defScope s__law_right) f cdv A outer s H E).xe := passes_of rfl
    have D_counted : Fd P w K mg base 1 "counted" _ _ φ_counted := d_counted.mono (by decide)
    refine' (ss_cons (ss_setI hN (so_call D_counted hr tk (sri_ro (sb_var 0) (sri_ro (sb_var 1) sri_nil (by decide) (by rfl)) (by decide) (by rfl)) (by rfl) (by decide) (by rfl) (by rfl)) (by rfl) (by first | exact .inl rfl | exact .inr rfl) (by rfl) (by first | exact .inl rfl | exact .inr rfl | assumption)) (ss_cons (ss_if (SW.st (sw_or (st_not (st_val (SO.sb (so_callB od_isi (by rfl) z_isinstance (by rfl) (sa_cons (sb_var 2) (sa_cons (SO.sb (so_ty (by rfl) z_int (by rfl))) sa_nil (by decide) (by rfl)) (by decide) (by rfl)) (by decide) (by decide) (by rfl) (by rfl))) (by intro _; rfl))) (sw_or1 (st_val (SO.sb (so_callB od_isi (by rfl) z_isinstance (by rfl) (sa_cons (sb_var 2) (sa_cons (SO.sb (so_ty (by rfl) z_bool (by rfl))) sa_nil (by decide) (by rfl)) (by decide) (by rfl)) (by decide) (by decide) (by rfl) (by rfl))) (by intro _; rfl))))) (ss_one (ss_ret so_bl)) ss_nil) (ss_cons (ss_if (st_cmpD (od_eq hr) (sb_var 0) (SO.sb so_int) (by first | exact nomark _ | rfl) (by decide)) (ss_one (ss_ret (so_cmpD (od_eq hr) (sb_var 2) (sb_var 1) (by first | exact nomark _ | rfl) (by decide)))) ss_nil) (ss_one (ss_ret (so_and (SO.sb (so_chain od_leI od_ltI (SO.sb so_int) (sb_var 2) (sb_var 0) (by decide) (by decide) (by with_unfolding_all rfl))) (so_and (SO.sb (so_cmpD (od_eq hr) (SO.sb (so_bin od_mod (SO.sb (so_bin od_sub (sb_var 1) (sb_var 2) (by decide))) (sb_var 0) (by decide))) (SO.sb so_int) (by first | exact nomark _ | rfl) (by decide))) (so_one (so_cmpD (od_eq hr) (SO.sb (so_call D_counted hr tk (sri_ro (sb_var 0) (sri_ro (sb_var 2) sri_nil (by decide) (by rfl)) (by decide) (by rfl)) (by rfl) (by decide) (by rfl) (by rfl))) (sb_var 2) (by first | exact nomark _ | rfl) (by decide))))))))))
  case hv => decide
/-! #### law -/
abbrev s_law : Stmt := top 7
theorem sc_law : FnScope ["_law_script", "_law_k", "_law_tape_here", "_law_turn", "_law_both", "_law_n", "_law_m"] ["_law_script"] (defScope s_law) := ⟨rfl, rfl, rfl, by decide +kernel, rfl, by decide +kernel, by decide +kernel⟩
def l_law_1 : CS := (sSeq (sAsg (cCall φ__law_tape (aRo (cVar 0) (aRo (cVar 1) aNil))) (gSet 2)) (sSeq (sAsg (cImm (cIdx (cLst (cCons (cK (.int 0)) (cCons (cK (.int 1)) (cCons (cK (.int 2)) (cCons (cK (.int 1000)) (cCons (c2 pAddI (cK (.int 1)) (cCall φ__law_draw (aOw (cMv 2) (some 2) (aRo (cK (.int 1000)) aNil)))) cNil)))))) (cCall φ__law_draw (aOw (cMv 2) (some 2) (aRo (cK (.int 5)) aNil))))) (gSet 3)) (sSeq (sPar 5 6 (cCons (cCall φ__law_number (aOw (cMv 2) (some 2) (aRo (cVar 3) aNil))) (cCons (cCall φ__law_number (aOw (cMv 2) (some 2) (aRo (cVar 3) aNil))) cNil))) (sSeq (sIf (tcOr (tcNot (cTt (cCall φ__law_right (aRo (cVar 3) (aRo (cVar 5) aNil))))) (tcOr (tcNot (cTt (cCall φ__law_right (aRo (cVar 3) (aRo (cVar 6) aNil))))) (tcOr (tcNot (cTt (cCall φ__law_right (aRo (cVar 3) (aRo (cVar 3) aNil))))) (tcNot (cTt (cCall φ__law_right (aRo (cVar 3) (aRo (cK (.int 0)) aNil)))))))) (sRet (cK (.bl false))) sNil) (sSeq (sAsg (c2 pAddI (cCall φ_counted (aRo (cVar 3) (aRo (cVar 5) aNil))) (cCall φ_counted (aRo (cVar 3) (aRo (cVar 6) aNil)))) (gSet 4)) (sSeq (sIf (tcAnd (cTt (c2 pLeI (cL pAbs (cCons (c2 pAddI (cVar 5) (cVar 6)) cNil)) (c2 pPow (cK (.int 10)) (cK (.int 12))))) (cTt (c2 pNe (cCall φ_counted (aRo (cVar 3) (aRo (cVar 4) aNil))) (cCall φ_counted (aRo (cVar 3) (aRo (c2 pAddI (cVar 5) (cVar 6)) aNil)))))) (sRet (cK (.bl false))) sNil) (sIf (tcAnd (cTt (c2 pGtI (cVar 3) (cK (.int 0)))) (tcAnd (cTt (c2 pLeI (cVar 5) (c2 pSub (c2 pPow (cK (.int 10)) (cK (.int 12))) (c2 pMulI (cK (.int 3)) (cVar 3))))) (cTt (c2 pNe (cCall φ_counted (aRo (cVar 3) (aRo (c2 pAddI (cVar 5) (c2 pMulI (cK (.int 3)) (cVar 3))) aNil))) (cCall φ_counted (aRo (cVar 3) (aRo (cVar 5) aNil))))))) (sRet (cK (.bl false))) sNil)))))))
def b_law : CS := (sSeq (sFor (iRange1 (cCons (c2 pAddI (cK (.int 1)) (cL pMin2 (cCons (cK (.int 30)) (cCons (cL pLen (cCons (cVar 0) cNil)) cNil)))) cNil)) (gSet 1) l_law_1) (sRet (cK (.bl true))))
def φ_law : List D → FR := fnRun 7 [false] b_law
theorem ok_law {f : Addr} {fd : FuncData} (F : Fun K "law" "law" s_law f fd) (z_len : mg "len" = none) (z_min : mg "min" = none) (z_range : mg "range" = none) (z_abs : mg "abs" = none) (d__law_tape : Fd P w K mg base 1 "_law_tape" ["_law_script", "_law_k"] [false, false] φ__law_tape) (d__law_draw : Fd P w K mg base 1 "_law_draw" ["_law_tape_here", "_law_many"] [true, false] φ__law_draw) (d__law_number : Fd P w K mg base 2 "_law_number" ["_law_tape_here", "_law_turn"] [true, false] φ__law_number) (d__law_right : Fd P w K mg base 2 "_law_right" ["_law_turn", "_law_n"] [false, false] φ__law_right) (d_counted : Fd P w K mg base 1 "counted" ["turn", "n"] [false, false] φ_counted) : FnOk P w K mg base (L2.CX P w) 3 f fd ["_law_script"] (spF K mg [false] φ_law) := by
  refine' fn_ok (M := _) (Vs := _) F sc_law rfl ?hv fun cdv A outer s H E hr => ?hb
  case hb =>
    have hr : Room 2 (cxOf (L2.CX P w) P w K mg base ["_law_script", "_law_k", "_law_tape_here", "_law_turn", "_law_both", "_law_n", "_law_m"] "law" (defScope s_law) f cdv A outer s H E).A := hr
    have hN : (cxOf (L2.CX P w) P w K mg base ["_law_script", "_law_k", "_law_tape_here", "_law_turn", "_law_both", "_law_n", "_law_m"] "law" (defScope s_law) f cdv A outer s H E).N.Nodup := sc_law.nd
    have tk : Takes (cxOf (L2.CX P w) P w K mg base ["_law_script", "_law_k", "_law_tape_here", "_law_turn", "_law_both", "_law_n", "_law_m"] "law" (defScope s_law) f cdv A outer s H E) (fun cls d _ H => E cls d H) := takes_of rfl rfl rfl rfl
    have hp : PassesOwn (model (cxOf (L2.CX P w) P w K mg base ["_law_script", "_law_k", "_law_tape_here", "_law_turn", "_law_both", "_law_n", "_law_m"] "law" (defScope s_law) f cdv A outer s H E).prog (cxOf (L2.CX P w) P w K mg base ["_law_script", "_law_k", "_law_tape_here", "_law_turn", "_law_both", "_law_n", "_law_m"] "law" (defScope s_law) f cdv A outer s H E).w) (cxOf (L2.CX P w) P w K mg base ["_law_script", "_law_k", "_law_tape_here", "_law_turn", "_law_both", "_law_n", "_law_m"] "law" (defScope s_law) f cdv A outer s H E).A (cxOf (L2.CX P w) P w K mg base ["_law_script", "_law_k", "_law_tape_here", "_law_turn", "_law_both", "_law_n", "_law_m"] "law" (defScope s_law) f cdv A outer s H E).env (cxOf (L2.CX P w) P w K mg base ["_law_script", "_law_k", "_law_tape_here", "_law_turn", "_law_both", "_law_n", "_law_m"] "law" (defScope s_law) f cdv A outer s H E).xe := passes_of rfl
    have D__law_tape : Fd P w K mg base 2 "_law_tape" _ _ φ__law_tape := d__law_tape.mono (by decide)
    have D__law_draw : Fd P w K mg base 2 "_law_draw" _ _ φ__law_draw := d__law_draw.mono (by decide)
    have D__law_number : Fd P w K mg base 2 "_law_number" _ _ φ__law_number := d__law_number.mono (by decide)
    have D__law_right : Fd P w K mg base 2 "_law_right" _ _ φ__law_right := d__law_right.mono (by decide)
    have D_counted : Fd P w K mg base 2 "counted" _ _ φ_counted := d_counted.mono (by decide)
    refine' (ss_cons (ss_for hp rfl (si_range1 (by rfl) z_range (sa_cons (SO.sb (so_bin od_addI (SO.sb so_int) (SO.sb (so_callB (od_min2 rfl) (by rfl) z_min (by rfl) (sa_cons (SO.sb so_int) (sa_cons (SO.sb (so_callB od_len (by rfl) z_len (by rfl) (sa_cons (sb_var 0) sa_nil (by decide) (by rfl)) (by decide) (by decide) (by rfl) (by rfl))) sa_nil (by decide) (by rfl)) (by decide) (by rfl)) (by decide) (by decide) (by rfl) (by rfl))) (by decide))) sa_nil (by decide) (by rfl)) (by rfl)) (sg_name 1 hN) (ss_cons (ss_setI hN (so_call D__law_tape hr tk (sri_ro (sb_var 0) (sri_ro (sb_var 1) sri_nil (by decide) (by rfl)) (by decide) (by rfl)) (by rfl) (by decide) (by rfl) (by rfl)) (by rfl) (by first | exact .inl rfl | exact .inr rfl) (by rfl) (by first | exact .inl rfl | exact .inr rfl | assumption)) (ss_cons (ss_setI hN (SB.imm (sb_idx hr (SO.sb (so_lst (sao_cons so_int (sao_cons so_int (sao_cons so_int (sao_cons so_int (sao_cons (so_bin od_addI (SO.sb so_int) (SO.sb (so_call D__law_draw hr tk (sri_ioI (sri_ro (SO.sb so_int) sri_nil (by decide) (by rfl)) (by rfl) (by first | exact Or.inl rfl | exact Or.inr (Or.inl rfl) | exact Or.inr (Or.inr rfl)) (by decide) (by decide) (by rfl)) (by rfl) (by decide) (by rfl) (by rfl))) (by decide)) sao_nil (by rfl)) (by rfl)) (by rfl)) (by rfl)) (by rfl)))) (SO.sb (so_call D__law_draw hr tk (sri_ioI (sri_ro (SO.sb so_int) sri_nil (by decide) (by rfl)) (by rfl) (by first | exact Or.inl rfl | exact Or.inr (Or.inl rfl) | exact Or.inr (Or.inr rfl)) (by decide) (by decide) (by rfl)) (by rfl) (by decide) (by rfl) (by rfl))) (by exact fun _ _ => rfl) (by decide))) (by rfl) (by first | exact .inl rfl | exact .inr rfl) (by rfl) (by first | exact .inl rfl | exact .inr rfl | assumption)) (ss_cons (ss_parI rfl hN (sao_cons (so_call D__law_number hr tk (sri_ioI (sri_ro (sb_var 3) sri_nil (by decide) (by rfl)) (by rfl) (by first | exact Or.inl rfl | exact Or.inr (Or.inl rfl) | exact Or.inr (Or.inr rfl)) (by decide) (by decide) (by rfl)) (by rfl) (by decide) (by rfl) (by rfl)) (sao_cons (so_call D__law_number hr tk (sri_ioI (sri_ro (sb_var 3) sri_nil (by decide) (by rfl)) (by rfl) (by first | exact Or.inl rfl | exact Or.inr (Or.inl rfl) | exact Or.inr (Or.inr rfl)) (by decide) (by decide) (by rfl)) (by rfl) (by decide) (by rfl) (by rfl)) sao_nil (by rfl)) (by rfl)) (by rfl) (by rfl) (by decide) (by rfl) (by rfl) (by rfl) (by rfl)) (ss_cons (ss_if (SW.st (sw_or (st_not (st_val (SO.sb (so_call D__law_right hr tk (sri_ro (sb_var 3) (sri_ro (sb_var 5) sri_nil (by decide) (by rfl)) (by decide) (by rfl)) (by rfl) (by decide) (by rfl) (by rfl))) (by intro _; rfl))) (sw_or (st_not (st_val (SO.sb (so_call D__law_right hr tk (sri_ro (sb_var 3) (sri_ro (sb_var 6) sri_nil (by decide) (by rfl)) (by decide) (by rfl)) (by rfl) (by decide) (by rfl) (by rfl))) (by intro _; rfl))) (sw_or (st_not (st_val (SO.sb (so_call D__law_right hr tk (sri_ro (sb_var 3) (sri_ro (sb_var 3) sri_nil (by decide) (by rfl)) (by decide) (by rfl)) (by rfl) (by decide) (by rfl) (by rfl))) (by intro _; rfl))) (sw_or1 (st_not (st_val (SO.sb (so_call D__law_right hr tk (sri_ro (sb_var 3) (sri_ro (SO.sb so_int) sri_nil (by decide) (by rfl)) (by decide) (by rfl)) (by rfl) (by decide) (by rfl) (by rfl))) (by intro _; rfl)))))))) (ss_one (ss_ret so_bl)) ss_nil) (ss_cons (ss_setI hN (so_bin od_addI (SO.sb (so_call D_counted hr tk (sri_ro (sb_var 3) (sri_ro (sb_var 5) sri_nil (by decide) (by rfl)) (by decide) (by rfl)) (by rfl) (by decide) (by rfl) (by rfl))) (SO.sb (so_call D_counted hr tk (sri_ro (sb_var 3) (sri_ro (sb_var 6) sri_nil (by decide) (by rfl)) (by decide) (by rfl)) (by rfl) (by decide) (by rfl) (by rfl))) (by decide)) (by rfl) (by first | exact .inl rfl | exact .inr rfl) (by rfl) (by first | exact .inl rfl | exact .inr rfl | assumption)) (ss_cons (ss_if (SW.st (sw_and (st_cmpD od_leI (SO.sb (so_callB od_abs (by rfl) z_abs (by rfl) (sa_cons (SO.sb (so_bin od_addI (sb_var 5) (sb_var 6) (by decide))) sa_nil (by decide) (by rfl)) (by decide) (by decide) (by rfl) (by rfl))) (SO.sb (so_bin od_pow (SO.sb so_int) (SO.sb so_int) (by decide))) (by first | exact nomark _ | rfl) (by decide)) (sw_and1 (st_cmpD (od_ne hr) (SO.sb (so_call D_counted hr tk (sri_ro (sb_var 3) (sri_ro (sb_var 4) sri_nil (by decide) (by rfl)) (by decide) (by rfl)) (by rfl) (by decide) (by rfl) (by rfl))) (SO.sb (so_call D_counted hr tk (sri_ro (sb_var 3) (sri_ro (SO.sb (so_bin od_addI (sb_var 5) (sb_var 6) (by decide))) sri_nil (by decide) (by rfl)) (by decide) (by rfl)) (by rfl) (by decide) (by rfl) (by rfl))) (by first | exact nomark _ | rfl) (by decide))))) (ss_one (ss_ret so_bl)) ss_nil) (ss_one (ss_if (SW.st (sw_and (st_cmpD od_gtI (sb_var 3) (SO.sb so_int) (by first | exact nomark _ | rfl) (by decide)) (sw_and (st_cmpD od_leI (sb_var 5) (SO.sb (so_bin od_sub (SO.sb (so_bin od_pow (SO.sb so_int) (SO.sb so_int) (by decide))) (SO.sb (so_bin od_mulI (SO.sb so_int) (sb_var 3) (by decide))) (by decide))) (by first | exact nomark _ | rfl) (by decide)) (sw_and1 (st_cmpD (od_ne hr) (SO.sb (so_call D_counted hr tk (sri_ro (sb_var 3) (sri_ro (SO.sb (so_bin od_addI (sb_var 5) (SO.sb (so_bin od_mulI (SO.sb so_int) (sb_var 3) (by decide))) (by decide))) sri_nil (by decide) (by rfl)) (by decide) (by rfl)) (by rfl) (by decide) (by rfl) (by rfl))) (SO.sb (so_call D_counted hr tk (sri_ro (sb_var 3) (sri_ro (sb_var 5) sri_nil (by decide) (by rfl)) (by decide) (by rfl)) (by rfl) (by decide) (by rfl) (by rfl))) (by first | exact nomark _ | rfl) (by decide)))))) (ss_one (ss_ret so_bl)) ss_nil)))))))) (by decide) (by intro _; rfl)) (ss_one (ss_ret so_bl)))
  case hv => decide
end
end VS

set_option maxRecDepth 100000
set_option maxHeartbeats 0
namespace VS
open PySem L2 SeqAt
theorem v_counted {t n : Int} (h : 0 ≤ t) : φ_counted [.int t, .int n] = .ok (.int (if t = 0 then n else n % t)) [] := by
  unfold φ_counted fnRun b_counted
  by_cases h0 : t = 0
  · simp [fnEnv, fnEnd, outsOf, h0]
  · have : 0 < t := by omega
    simp [fnEnv, fnEnd, outsOf, h0, this]
abbrev tp (a b : Int) : D := .lst .m [.int a, .int b]
theorem v_tape (ns : List Int) (k : Nat) : ∃ a b, φ__law_tape [.lst .l (ns.map D.int), .int k] = .ok (tp a b) [] := by
  unfold φ__law_tape fnRun b__law_tape
  by_cases hk : k < ns.length
  · have e : atI (ns.map D.int) (k : Int) = some (.int ns[k]) := by rw [atI_nat (by simpa using hk)]; simp [hk]
    have hk' : (k : Int) < ns.length := by omega
    simp [fnEnv, fnEnd, outsOf, hk, hk', e, tp]
  · have hk' : ¬ (k : Int) < ns.length := by omega
    simp [fnEnv, fnEnd, outsOf, hk, hk', tp]
theorem v_draw (a b m : Int) (h : 0 < m) (h2 : m < 2 ^ 64) : ∃ r a' b', φ__law_draw [tp a b, .int m] = .ok (.int r) [tp a' b'] ∧ 0 ≤ r ∧ r < m := by
  unfold φ__law_draw fnRun b__law_draw
  have h3 : m < 18446744073709551616 := h2
  by_cases ha : 0 < a
  · refine ⟨a % m, a / m, b, ?_, Int.emod_nonneg _ (by omega), Int.emod_lt_of_pos _ h⟩
    simp [fnEnv, fnEnd, outsOf, tp, ha, h, h3, stD, ixN, lVar, gSubD]
  · refine ⟨((b * 48271 + 39373) % 2147483647 * ((b * 48271 + 39373) % 2147483647 % 40009 + 7) % 2147483587) / 64 % m, a, (b * 48271 + 39373) % 2147483647, ?_, Int.emod_nonneg _ (by omega), Int.emod_lt_of_pos _ h⟩
    simp [fnEnv, fnEnd, outsOf, tp, ha, h, h3, stD, ixN, lVar, gSubD]
theorem v_number (a b t : Int) (h0 : 0 ≤ t) (h1 : t ≤ 1000) : ∃ r a' b', φ__law_number [tp a b, .int t] = .ok (.int r) [tp a' b'] := by
  unfold φ__law_number fnRun b__law_number
  obtain ⟨r, a1, b1, e1, p1, p2⟩ := v_draw a b 4 (by decide) (by decide)
  obtain ⟨r2, a2, b2, e2, q1, q2⟩ := v_draw a1 b1 9 (by decide) (by decide)
  obtain ⟨r3, a3, b3, e3, q3, q4⟩ := v_draw a1 b1 2001 (by decide) (by decide)
  obtain ⟨r4, a4, b4, e4, q5, q6⟩ := v_draw a3 b3 3 (by decide) (by decide)
  obtain ⟨r5, a5, b5, e5, q7, q8⟩ := v_draw a1 b1 1000000000000 (by decide) (by decide)
  obtain ⟨r6, a6, b6, e6, q9, q10⟩ := v_draw a5 b5 2 (by decide) (by decide)
  by_cases c0 : r = 0
  · simp [fnEnv, fnEnd, outsOf, tp, e1, e2, c0]
  · by_cases c1 : r = 1
    · have x1 : -18446744073709551616 < t := by omega
      have x2 : t < 18446744073709551616 := by omega
      simp [fnEnv, fnEnd, outsOf, tp, e1, e3, e4, c1, x1, x2]
    · have : r6 = 0 ∨ r6 = 1 := by omega
      rcases this with c | c <;> simp [fnEnv, fnEnd, outsOf, tp, e1, e5, e6, c0, c1, c]
theorem v_right (t n : Int) (h : 0 ≤ t) : φ__law_right [.int t, .int n] = .ok (.bl true) [] := by
  unfold φ__law_right fnRun b__law_right
  have c1 := v_counted (n := n) h
  have c2 := v_counted (n := if t = 0 then n else n % t) h
  by_cases h0 : t = 0
  · subst h0
    simp at c1 c2
    simp [fnEnv, fnEnd, outsOf, c1]
  · have hp : 0 < t := by omega
    simp [h0] at c1 c2
    have x1 := Int.emod_nonneg n h0
    have x2 := Int.emod_lt_of_pos n hp
    have x3 : (n - n % t) % t = 0 := by simp [Int.sub_emod]
    simp [fnEnv, fnEnd, outsOf, c1, c2, h0, hp, x1, x2, x3]
end VS

set_option maxRecDepth 100000
set_option maxHeartbeats 0
namespace VS
open PySem L2 SeqAt
theorem v_step (ns : List Int) (k : Nat) (o2 o3 o4 o5 o6 : Option D) : ∃ p1 p2 p3 p4 p5 p6, l_law_1 [some (.lst .l (ns.map D.int)), some (.int k), o2, o3, o4, o5, o6] = .nx [some (.lst .l (ns.map D.int)), p1, p2, p3, p4, p5, p6] := by
  unfold l_law_1
  obtain ⟨a, b, e1⟩ := v_tape ns k
  obtain ⟨r1, a1, b1, e2, p1, p2⟩ := v_draw a b 1000 (by decide) (by decide)
  obtain ⟨r2, a2, b2, e3, p3, p4⟩ := v_draw a1 b1 5 (by decide) (by decide)
  have : ∃ t, ixD (.lst .m [.int 0, .int 1, .int 2, .int 1000, .int (1 + r1)]) (.int r2) = some (.int t) ∧ 0 ≤ t ∧ t ≤ 1000 := by
    have : r2 = 0 ∨ r2 = 1 ∨ r2 = 2 ∨ r2 = 3 ∨ r2 = 4 := by omega
    rcases this with h | h | h | h | h <;> subst h <;> simp <;> omega
  obtain ⟨t, e4, t0, t1⟩ := this
  rw [e_ix1] at e4
  obtain ⟨n, a3, b3, e5⟩ := v_number a2 b2 t t0 t1
  obtain ⟨m, a4, b4, e6⟩ := v_number a3 b3 t t0 t1
  have r1 := v_right t n t0
  have r2 := v_right t m t0
  have r3 := v_right t t t0
  have r4 := v_right t 0 t0
  have c1 := v_counted (n := n) t0
  have c2 := v_counted (n := m) t0
  have c3 := v_counted (n := (if t = 0 then n else n % t) + (if t = 0 then m else m % t)) t0
  have c4 := v_counted (n := n + m) t0
  have c5 := v_counted (n := n + 3 * t) t0
  by_cases h0 : t = 0
  · subst h0
    simp at c1 c2 c3 c4 c5
    simp [e1, e2, e3, e4, e5, e6, r1, r2, r3, r4, c1, c2, c3, c4, c5]
  · have hp : 0 < t := by omega
    simp only [h0, if_false] at c1 c2 c3 c4 c5
    have q : (n % t + m % t) % t = (n + m) % t := (Int.add_emod n m t).symm
    rw [q] at c3
    have q2 : (n + 3 * t) % t = n % t := by simp
    rw [q2] at c5
    simp [e1, e2, e3, e4, e5, e6, r1, r2, r3, r4, c1, c2, c3, c4, c5, hp]
theorem v_loop (ns : List Int) : ∀ (ks : List Nat) (o1 o2 o3 o4 o5 o6 : Option D), ∃ p1 p2 p3 p4 p5 p6, forRun (gSet 1) l_law_1 (ks.map fun i => .int (i : Nat)) [some (.lst .l (ns.map D.int)), o1, o2, o3, o4, o5, o6] = .nx [some (.lst .l (ns.map D.int)), p1, p2, p3, p4, p5, p6]
  | [], o1, o2, o3, o4, o5, o6 => ⟨_, _, _, _, _, _, rfl⟩
  | k :: ks, o1, o2, o3, o4, o5, o6 => by
    obtain ⟨p1, p2, p3, p4, p5, p6, e⟩ := v_step ns k o2 o3 o4 o5 o6
    obtain ⟨q1, q2, q3, q4, q5, q6, e2⟩ := v_loop ns ks p1 p2 p3 p4 p5 p6
    refine ⟨q1, q2, q3, q4, q5, q6, ?_⟩
    simp [forRun, e, e2]
theorem e_rng (j : Int) (h0 : -(2 ^ 62) ≤ j) (h : j < 2 ^ 62) : rngItems [.int j] = some ((List.range j.toNat).map fun i => .int (i : Nat)) := if_pos ⟨h0, h⟩
theorem v_law (ns : List Int) (h : ns.length ≤ 63) : φ_law [.lst .l (ns.map D.int)] = .ok (.bl true) [] := by
  unfold φ_law fnRun b_law
  have hr : ∃ ks : List Nat, rngItems [.int (1 + (if (ns.length : Int) < 30 then (ns.length : Int) else 30))] = some (ks.map fun i => .int (i : Nat)) := by
    refine ⟨List.range (1 + (if (ns.length : Int) < 30 then (ns.length : Int) else 30)).toNat, ?_⟩
    exact e_rng _ (by split <;> omega) (by split <;> omega)
  obtain ⟨ks, e⟩ := hr
  obtain ⟨p1, p2, p3, p4, p5, p6, e2⟩ := v_loop ns ks none none none none none none
  simp [fnEnv, fnEnd, outsOf, sFor, iRange1, e, e2]
end VS

set_option maxRecDepth 100000
set_option maxHeartbeats 0
namespace VS
open PySem L2 SeqAt PySem.Spec PyProof.Rows
theorem all_mk {l : PySem.W.OpenLaw} {w : World} {K : PySem.W.Frag} {h : Heap} {mg : Str → Option Value} {fa f1 f2 f3 f4 f5 f6 : Addr} (X : K.In h) (G : h.Ns mainGlobals mg) (hfa : mg "law" = some (.ref fa))
    {od1 an1 : Option Addr} {sl1 : Array (Option Value)} {oc1 kV1 dc1 pm1 cd1 ct1 : Value}
    (a1 : PySem.W.nsIn K mainGlobals "counted" = some (some (.ref f1))) (l1 : K.lookup f1 = some ⟨oc1, od1, .func (PySem.W.fnOf "counted" "counted" (defArgs s_counted) (defBody s_counted) (defScope s_counted) .none kV1 dc1 pm1 an1 cd1 ct1), sl1⟩) (c1 : PySem.W.codeIn K cd1 "counted" = true) (k1 : PySem.W.keepIn K (.ref f1) = true)
    {od2 an2 : Option Addr} {sl2 : Array (Option Value)} {oc2 kV2 dc2 pm2 cd2 ct2 : Value}
    (a2 : PySem.W.nsIn K mainGlobals "_law_tape" = some (some (.ref f2))) (l2 : K.lookup f2 = some ⟨oc2, od2, .func (PySem.W.fnOf "_law_tape" "_law_tape" (defArgs s__law_tape) (defBody s__law_tape) (defScope s__law_tape) .none kV2 dc2 pm2 an2 cd2 ct2), sl2⟩) (c2 : PySem.W.codeIn K cd2 "_law_tape" = true) (k2 : PySem.W.keepIn K (.ref f2) = true)
    {od3 an3 : Option Addr} {sl3 : Array (Option Value)} {oc3 kV3 dc3 pm3 cd3 ct3 : Value}
    (a3 : PySem.W.nsIn K mainGlobals "_law_draw" = some (some (.ref f3))) (l3 : K.lookup f3 = some ⟨oc3, od3, .func (PySem.W.fnOf "_law_draw" "_law_draw" (defArgs s__law_draw) (defBody s__law_draw) (defScope s__law_draw) .none kV3 dc3 pm3 an3 cd3 ct3), sl3⟩) (c3 : PySem.W.codeIn K cd3 "_law_draw" = true) (k3 : PySem.W.keepIn K (.ref f3) = true)
    {od4 an4 : Option Addr} {sl4 : Array (Option Value)} {oc4 kV4 dc4 pm4 cd4 ct4 : Value}
    (a4 : PySem.W.nsIn K mainGlobals "_law_number" = some (some (.ref f4))) (l4 : K.lookup f4 = some ⟨oc4, od4, .func (PySem.W.fnOf "_law_number" "_law_number" (defArgs s__law_number) (defBody s__law_number) (defScope s__law_number) .none kV4 dc4 pm4 an4 cd4 ct4), sl4⟩) (c4 : PySem.W.codeIn K cd4 "_law_number" = true) (k4 : PySem.W.keepIn K (.ref f4) = true)
    {od5 an5 : Option Addr} {sl5 : Array (Option Value)} {oc5 kV5 dc5 pm5 cd5 ct5 : Value}
    (a5 : PySem.W.nsIn K mainGlobals "_law_right" = some (some (.ref f5))) (l5 : K.lookup f5 = some ⟨oc5, od5, .func (PySem.W.fnOf "_law_right" "_law_right" (defArgs s__law_right) (defBody s__law_right) (defScope s__law_right) .none kV5 dc5 pm5 an5 cd5 ct5), sl5⟩) (c5 : PySem.W.codeIn K cd5 "_law_right" = true) (k5 : PySem.W.keepIn K (.ref f5) = true)
    {od6 an6 : Option Addr} {sl6 : Array (Option Value)} {oc6 kV6 dc6 pm6 cd6 ct6 : Value}
    (a6 : PySem.W.nsIn K mainGlobals "law" = some (some (.ref f6))) (l6 : K.lookup f6 = some ⟨oc6, od6, .func (PySem.W.fnOf "law" "law" (defArgs s_law) (defBody s_law) (defScope s_law) .none kV6 dc6 pm6 an6 cd6 ct6), sl6⟩) (c6 : PySem.W.codeIn K cd6 "law" = true) (k6 : PySem.W.keepIn K (.ref f6) = true)
    (w_len : PySem.W.nsIn K mainGlobals "len" = some none) (w_abs : PySem.W.nsIn K mainGlobals "abs" = some none) (w_int : PySem.W.nsIn K mainGlobals "int" = some none) (w_isinstance : PySem.W.nsIn K mainGlobals "isinstance" = some none) (w_bool : PySem.W.nsIn K mainGlobals "bool" = some none) (w_min : PySem.W.nsIn K mainGlobals "min" = some none) (w_range : PySem.W.nsIn K mainGlobals "range" = some none) :
    ∃ fd : FuncData, (∀ (s : Shared) (v : Value), BindsTo s fd ⟨[v], []⟩ [("_law_script", v)]) ∧ ∀ base : Heap, K.In base → base.Ns mainGlobals mg → FnOk l.prog w K mg base (L2.CX l.prog w) 3 fa fd ["_law_script"] (spLaw K) := by
  have e := hfa.symm.trans (PySem.W.mg_of X G a6)
  cases e
  have F1 := fun_mk (st := s_counted) l1 c1 k1
  have b1 := F1.binds (ps := ["turn", "n"]) fun _ _ _ _ _ _ us hl => match us, hl with | [_, _], _ => rfl
  have F2 := fun_mk (st := s__law_tape) l2 c2 k2
  have b2 := F2.binds (ps := ["_law_script", "_law_k"]) fun _ _ _ _ _ _ us hl => match us, hl with | [_, _], _ => rfl
  have F3 := fun_mk (st := s__law_draw) l3 c3 k3
  have b3 := F3.binds (ps := ["_law_tape_here", "_law_many"]) fun _ _ _ _ _ _ us hl => match us, hl with | [_, _], _ => rfl
  have F4 := fun_mk (st := s__law_number) l4 c4 k4
  have b4 := F4.binds (ps := ["_law_tape_here", "_law_turn"]) fun _ _ _ _ _ _ us hl => match us, hl with | [_, _], _ => rfl
  have F5 := fun_mk (st := s__law_right) l5 c5 k5
  have b5 := F5.binds (ps := ["_law_turn", "_law_n"]) fun _ _ _ _ _ _ us hl => match us, hl with | [_, _], _ => rfl
  have F6 := fun_mk (st := s_law) l6 c6 k6
  have z_len := PySem.W.mg_none_of X G w_len
  have z_abs := PySem.W.mg_none_of X G w_abs
  have z_int := PySem.W.mg_none_of X G w_int
  have z_isinstance := PySem.W.mg_none_of X G w_isinstance
  have z_bool := PySem.W.mg_none_of X G w_bool
  have z_min := PySem.W.mg_none_of X G w_min
  have z_range := PySem.W.mg_none_of X G w_range
  refine ⟨PySem.W.fnOf "law" "law" (defArgs s_law) (defBody s_law) (defScope s_law) .none kV6 dc6 pm6 an6 cd6 ct6, fun s v => .of_eq rfl, fun base _ _ => ?_⟩
  have d_counted : Fd l.prog w K mg base 1 "counted" ["turn", "n"] [false, false] φ_counted := fd_mk F1 (PySem.W.mg_of X G a1) b1 (ok_counted F1 )
  have d__law_tape : Fd l.prog w K mg base 1 "_law_tape" ["_law_script", "_law_k"] [false, false] φ__law_tape := fd_mk F2 (PySem.W.mg_of X G a2) b2 (ok__law_tape F2 z_len z_abs z_int)
  have d__law_draw : Fd l.prog w K mg base 1 "_law_draw" ["_law_tape_here", "_law_many"] [true, false] φ__law_draw := fd_mk F3 (PySem.W.mg_of X G a3) b3 (ok__law_draw F3 )
  have d__law_number : Fd l.prog w K mg base 2 "_law_number" ["_law_tape_here", "_law_turn"] [true, false] φ__law_number := fd_mk F4 (PySem.W.mg_of X G a4) b4 (ok__law_number F4 d__law_draw)
  have d__law_right : Fd l.prog w K mg base 2 "_law_right" ["_law_turn", "_law_n"] [false, false] φ__law_right := fd_mk F5 (PySem.W.mg_of X G a5) b5 (ok__law_right F5 z_int z_isinstance z_bool d_counted)
  exact law_imp (ok_law F6 z_len z_min z_range z_abs d__law_tape d__law_draw d__law_number d__law_right d_counted) fun ns h1 h2 => v_law ns h1
end VS
open PySem PySem.W PyProof.Rows
set_option maxRecDepth 100000 in
set_option maxHeartbeats 0 in
theorem PySem.Challenge.cw_joinback_k01_steps_counted_holds : PySem.Challenge.rw_joinback_k01_steps_counted.Holds := by
  w_on; o_law; k_head; (case hw => w_witness2)
  k_fill
  refine VS.walkL (l := PySem.Challenge.rw_joinback_k01_steps_counted) (k := 3) (x := "_law_script") rfl rfl ⟨rfl, by decide, by decide⟩ (fun w h Y => PySem.W.kIn_of Y) ?F
  case F =>
    intro w mg fa h KX G hmg
    refine' VS.all_mk KX G hmg ?a1 ?l1 ?c1 ?k1 ?a2 ?l2 ?c2 ?k2 ?a3 ?l3 ?c3 ?k3 ?a4 ?l4 ?c4 ?k4 ?a5 ?l5 ?c5 ?k5 ?a6 ?l6 ?c6 ?k6 ?w_len ?w_abs ?w_int ?w_isinstance ?w_bool ?w_min ?w_range
    (case a1 => k_is)
    (case l1 => k_is)
    (case c1 => k_is)
    (case k1 => k_is)
    (case a2 => k_is)
    (case l2 => k_is)
    (case c2 => k_is)
    (case k2 => k_is)
    (case a3 => k_is)
    (case l3 => k_is)
    (case c3 => k_is)
    (case k3 => k_is)
    (case a4 => k_is)
    (case l4 => k_is)
    (case c4 => k_is)
    (case k4 => k_is)
    (case a5 => k_is)
    (case l5 => k_is)
    (case c5 => k_is)
    (case k5 => k_is)
    (case a6 => k_is)
    (case l6 => k_is)
    (case c6 => k_is)
    (case k6 => k_is)
    (case w_len => k_is)
    (case w_abs => k_is)
    (case w_int => k_is)
    (case w_isinstance => k_is)
    (case w_bool => k_is)
    (case w_min => k_is)
    (case w_range => k_is)

