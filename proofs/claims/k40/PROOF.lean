import PyProof.Rows.All
import Wide.All
import OpenK.AllK
import Wide.FinOn
import HandS.ForMost
import HandS.Walk
import HandS.Exc
import HandS.Wide
import HandS.IsInst
import HandS.TupAny
import HandS.TupLe
import HandS.ExcOwn
import HandS.WordsExc
import HandS.EndBits
import HandS.SortInts
import HandS.Zip
import HandS.Style
import HandS.MapJoin
import HandS.SetKeys
import HandS.More
import KE.SortData
import KE.DataMinMax
import KE.DataCmp
import KE.KDictList
import HandS.WideBits
import KE.GoesMore
import HandS.Conv
import PyProof.ReprRoads
import HandS.RaiseMore
import HandS.SetFor
import HandS.Strs
import PySem.Challenge.RW_joinback_k40_standing_rows
set_option Elab.async false
set_option linter.all false
set_option maxRecDepth 100000
namespace VS
open PySem L2

/-- how a node is held: mine, lent by the caller, fixed for good, locked while a loop walks it -/
inductive Fl where | m | l | f | k
deriving DecidableEq

/-- a tree of data -/
inductive D where
  | non
  | bl (b : Bool)
  | int (i : Int)
  | str (s : Str)
  | ty (n : String)
  | tup (ds : List D)
  | lst (g : Fl) (ds : List D)
  | dct (g : Fl) (ks : List Key) (ds : List D)
  | obj (g : Fl) (c : Str) (ns : List Str) (ds : List D)

abbrev Env := List (Option D)
abbrev FPs := List (List Addr)

structure Ctx where
  K : PySem.W.Frag
  mg : Str → Option Value
  H0 : Hp
  A : List Addr
  Lk : List Addr

def Mutb : HO → Prop
  | .lst _ => True
  | .dK _ => True
  | .ins _ _ _ => True
  | _ => False

/-- tuples and what is locked stay -/
structure Mono (H H' : Hp) : Prop where
  t : ∀ a xs, H a = some (.tup xs) → H' a = some (.tup xs)
  z : ∀ a o u, H a = some (.frz o u) → H' a = some (.frz o u)
theorem Mono.refl (H : Hp) : Mono H H := ⟨fun _ _ h => h, fun _ _ _ h => h⟩
theorem Mono.trans {H H1 H2 : Hp} (a : Mono H H1) (b : Mono H1 H2) : Mono H H2 := ⟨fun x y h => b.t x y (a.t x y h), fun x y z h => b.z x y z (a.z x y z h)⟩
theorem Mono.upd {H : Hp} {a : Addr} {u o : HO} (h : H a = some u) (mu : Mutb u) : Mono H (upd H a o) := by
  constructor
  · intro b xs e
    have : b ≠ a := by rintro rfl; rw [h] at e; cases e; exact mu
    rw [upd_ne this]; exact e
  · intro b x y e
    have : b ≠ a := by rintro rfl; rw [h] at e; cases e; exact mu
    rw [upd_ne this]; exact e
theorem Mono.new {H : Hp} {a : Addr} {o : HO} (h : H a = none) : Mono H (L2.upd H a o) := by
  constructor
  · intro b xs e
    rw [upd_ne (ne_of_none e h)]; exact e
  · intro b x y e
    rw [upd_ne (ne_of_none e h)]; exact e

/-- a list that the module's top has written -/
def KL (K : PySem.W.Frag) (a : Addr) (xs : List V) : Prop :=
  ∃ (o : Obj) (its : Array Value) (n : Nat), K.lookup a = some o ∧ o.cls = .type "list" ∧ o.dict = none ∧ o.data = .seq its n ∧ its.size ≤ sizeLine ∧ Vals xs its.toList
def RdK (K : PySem.W.Frag) (H : Hp) (a : Addr) (u : HO) : Prop := Rd H a u ∨ ∃ xs, u = .lst xs ∧ KL K a xs
theorem RdK.sql {K H a xs} (h : RdK K H a (.lst xs)) : SqL K H a xs := by
  rcases h with h | ⟨ys, e, h⟩
  · exact .inl h
  · cases e; exact .inr h
theorem RdK.rd {K H a u} (h : RdK K H a u) (n : ∀ xs, u ≠ .lst xs) : Rd H a u := by
  rcases h with h | ⟨ys, e, h⟩
  · exact h
  · exact absurd e (n ys)
/-- a node at a with content u, its own footprint -/
def Nd (C : Ctx) (H : Hp) : Fl → Addr → HO → List Addr → Prop
  | .m, a, u, fp => H a = some u ∧ fp = [a]
  | .l, a, u, fp => ((Rd C.H0 a u ∧ a ∉ C.A) ∨ ∃ xs, u = .lst xs ∧ KL C.K a xs) ∧ fp = []
  | .f, a, u, fp => (∃ o, H a = some (.frz o u)) ∧ a ∉ C.Lk ∧ fp = []
  | .k, a, u, fp => (∃ o, H a = some (.frz o u)) ∧ fp = []

def clsOf (C : Ctx) (c : Str) (Ca : Addr) : Prop := C.mg c = some (.ref Ca)

mutual
def Rep (C : Ctx) (H : Hp) : D → V → List Addr → Prop
  | .non, v, fp => v = .non ∧ fp = []
  | .bl b, v, fp => v = .bl b ∧ fp = []
  | .int i, v, fp => v = .int i ∧ fp = []
  | .str s, v, fp => v = .str s ∧ fp = []
  | .ty s, v, fp => v = .ty s ∧ fp = []
  | .tup ds, v, fp => ∃ a vs, v = .ref a ∧ SqT C.K H a vs ∧ Reps C H ds vs fp
  | .lst g ds, v, fp => ∃ a vs f1 f2, v = .ref a ∧ Nd C H g a (.lst vs) f1 ∧ Reps C H ds vs f2 ∧ (g = .m ∨ f2 = []) ∧ fp = f1 ++ f2
  | .dct g ks ds, v, fp => ∃ a kvs f1 f2, v = .ref a ∧ Nd C H g a (.dK kvs) f1 ∧ (kvs.map (·.1) = ks ∧ ks.Nodup) ∧ Reps C H ds (kvs.map (·.2)) f2 ∧ (g = .m ∨ f2 = []) ∧ fp = f1 ++ f2
  | .obj g c ns ds, v, fp => ∃ a Ca dx fs f1 f2, v = .ref a ∧ clsOf C c Ca ∧ Nd C H g a (.ins Ca dx fs) f1 ∧ fs.map (·.1) = ns ∧ Reps C H ds (fs.map (·.2)) f2 ∧ (g = .m ∨ f2 = []) ∧ fp = f1 ++ f2
def Reps (C : Ctx) (H : Hp) : List D → List V → List Addr → Prop
  | [], vs, fp => vs = [] ∧ fp = []
  | d :: ds, vs, fp => ∃ v vs' f1 f2, vs = v :: vs' ∧ Rep C H d v f1 ∧ Reps C H ds vs' f2 ∧ fp = f1 ++ f2
end

mutual
/-- no node of mine, none locked: it may be shared -/
def D.imm : D → Bool
  | .tup ds => imms ds
  | .lst g ds => (g == .l || g == .f) && imms ds
  | .dct g _ ds => (g == .l || g == .f) && imms ds
  | .obj g _ _ ds => (g == .l || g == .f) && imms ds
  | _ => true
def imms : List D → Bool
  | [] => true
  | d :: ds => d.imm && imms ds
end
mutual
/-- nothing lent, nothing locked -/
def D.nol : D → Bool
  | .tup ds => nols ds
  | .lst g ds => (g == .m || g == .f) && nols ds
  | .dct g _ ds => (g == .m || g == .f) && nols ds
  | .obj g _ _ ds => (g == .m || g == .f) && nols ds
  | _ => true
def nols : List D → Bool
  | [] => true
  | d :: ds => d.nol && nols ds
end
def Fl.lend : Fl → Fl
  | .f => .f
  | _ => .l
def Fl.fix : Fl → Fl
  | .m => .f
  | g => g
mutual
def D.lend : D → D
  | .tup ds => .tup (lends ds)
  | .lst g ds => .lst g.lend (lends ds)
  | .dct g ks ds => .dct g.lend ks (lends ds)
  | .obj g c ns ds => .obj g.lend c ns (lends ds)
  | d => d
def lends : List D → List D
  | [] => []
  | d :: ds => d.lend :: lends ds
end
mutual
def D.fix : D → D
  | .tup ds => .tup (fixs ds)
  | .lst g ds => .lst g.fix (fixs ds)
  | .dct g ks ds => .dct g.fix ks (fixs ds)
  | .obj g c ns ds => .obj g.fix c ns (fixs ds)
  | d => d
def fixs : List D → List D
  | [] => []
  | d :: ds => d.fix :: fixs ds
end

section
variable {C : Ctx} {H H' : Hp}
theorem Nd.keep {g a u fp} (n : Nd C H g a u fp) (hk : ∀ b ∈ fp, H' b = H b) (hm : Mono H H') : Nd C H' g a u fp := by
  cases g with
  | m => obtain ⟨e, rfl⟩ := n; exact ⟨by rw [hk a (by simp)]; exact e, rfl⟩
  | l => exact n
  | f => obtain ⟨⟨o, e⟩, x, rfl⟩ := n; exact ⟨⟨o, hm.z _ _ _ e⟩, x, rfl⟩
  | k => obtain ⟨⟨o, e⟩, rfl⟩ := n; exact ⟨⟨o, hm.z _ _ _ e⟩, rfl⟩
theorem sqt_keep {K a xs} (h : SqT K H a xs) (hm : Mono H H') : SqT K H' a xs := by
  rcases h with (h | ⟨o, h⟩) | h
  · exact .inl (.inl (hm.t _ _ h))
  · exact .inl (.inr ⟨o, hm.z _ _ _ h⟩)
  · exact .inr h
mutual
theorem Rep.keep : ∀ {d : D} {v : V} {fp : List Addr}, Rep C H d v fp → (∀ a ∈ fp, H' a = H a) → Mono H H' → Rep C H' d v fp
  | .non, v, fp, h, _, _ => h
  | .bl b, v, fp, h, _, _ => h
  | .int i, v, fp, h, _, _ => h
  | .str s, v, fp, h, _, _ => h
  | .ty s, v, fp, h, _, _ => h
  | .tup ds, v, fp, ⟨a, vs, e, t, r⟩, hk, hm => ⟨a, vs, e, sqt_keep t hm, Reps.keep r hk hm⟩
  | .lst g ds, v, fp, ⟨a, vs, f1, f2, e, n, r, z, e2⟩, hk, hm => ⟨a, vs, f1, f2, e, n.keep (fun b hb => hk b (by rw [e2]; exact List.mem_append_left _ hb)) hm, Reps.keep r (fun b hb => hk b (by rw [e2]; exact List.mem_append_right _ hb)) hm, z, e2⟩
  | .dct g ks ds, v, fp, ⟨a, vs, f1, f2, e, n, q, r, z, e2⟩, hk, hm => ⟨a, vs, f1, f2, e, n.keep (fun b hb => hk b (by rw [e2]; exact List.mem_append_left _ hb)) hm, q, Reps.keep r (fun b hb => hk b (by rw [e2]; exact List.mem_append_right _ hb)) hm, z, e2⟩
  | .obj g c ns ds, v, fp, ⟨a, Ca, dx, fs, f1, f2, e, c1, n, q, r, z, e2⟩, hk, hm => ⟨a, Ca, dx, fs, f1, f2, e, c1, n.keep (fun b hb => hk b (by rw [e2]; exact List.mem_append_left _ hb)) hm, q, Reps.keep r (fun b hb => hk b (by rw [e2]; exact List.mem_append_right _ hb)) hm, z, e2⟩
theorem Reps.keep : ∀ {ds : List D} {vs : List V} {fp : List Addr}, Reps C H ds vs fp → (∀ a ∈ fp, H' a = H a) → Mono H H' → Reps C H' ds vs fp
  | [], vs, fp, h, _, _ => h
  | d :: ds, vs, fp, ⟨v, vs', f1, f2, e, r, rs, e2⟩, hk, hm => ⟨v, vs', f1, f2, e, Rep.keep r (fun b hb => hk b (by rw [e2]; exact List.mem_append_left _ hb)) hm, Reps.keep rs (fun b hb => hk b (by rw [e2]; exact List.mem_append_right _ hb)) hm, e2⟩
end
theorem Nd.imm {g a u fp} (n : Nd C H g a u fp) (h : (g == .l || g == .f) = true) : fp = [] := by
  cases g with
  | m => cases h
  | l => exact n.2
  | f => exact n.2.2
  | k => cases h
mutual
theorem Rep.imm : ∀ {d : D} {v : V} {fp : List Addr}, Rep C H d v fp → d.imm = true → fp = []
  | .non, v, fp, h, _ => h.2
  | .bl b, v, fp, h, _ => h.2
  | .int i, v, fp, h, _ => h.2
  | .str s, v, fp, h, _ => h.2
  | .ty s, v, fp, h, _ => h.2
  | .tup ds, v, fp, ⟨a, vs, e, t, r⟩, hi => Reps.imm r hi
  | .lst g ds, v, fp, ⟨a, vs, f1, f2, e, n, r, z, e2⟩, hi => by
    have h := Bool.and_eq_true_iff.mp hi
    rw [e2, n.imm h.1, Reps.imm r h.2]; rfl
  | .dct g ks ds, v, fp, ⟨a, vs, f1, f2, e, n, q, r, z, e2⟩, hi => by
    have h := Bool.and_eq_true_iff.mp hi
    rw [e2, n.imm h.1, Reps.imm r h.2]; rfl
  | .obj g c ns ds, v, fp, ⟨a, Ca, dx, fs, f1, f2, e, c1, n, q, r, z, e2⟩, hi => by
    have h := Bool.and_eq_true_iff.mp hi
    rw [e2, n.imm h.1, Reps.imm r h.2]; rfl
theorem Reps.imm : ∀ {ds : List D} {vs : List V} {fp : List Addr}, Reps C H ds vs fp → imms ds = true → fp = []
  | [], vs, fp, h, _ => h.2
  | d :: ds, vs, fp, ⟨v, vs', f1, f2, e, r, rs, e2⟩, hi => by
    have h := Bool.and_eq_true_iff.mp hi
    rw [e2, Rep.imm r h.1, Reps.imm rs h.2]; rfl
end
end

section
variable {C : Ctx} {H H' : Hp}
theorem Nd.trk {g a u fp} (n : Nd C H g a u fp) (mu : Mutb u) : ∀ b ∈ fp, ∃ o, H b = some o ∧ Mutb o := by
  cases g with
  | m => obtain ⟨e, rfl⟩ := n; intro b hb; simp at hb; subst hb; exact ⟨u, e, mu⟩
  | l => obtain ⟨_, rfl⟩ := n; intro b hb; cases hb
  | f => obtain ⟨_, _, rfl⟩ := n; intro b hb; cases hb
  | k => obtain ⟨_, rfl⟩ := n; intro b hb; cases hb
mutual
theorem Rep.trk : ∀ {d : D} {v : V} {fp : List Addr}, Rep C H d v fp → ∀ b ∈ fp, ∃ o, H b = some o ∧ Mutb o
  | .non, v, fp, h => by rw [h.2]; intro b hb; cases hb
  | .bl b, v, fp, h => by rw [h.2]; intro b hb; cases hb
  | .int i, v, fp, h => by rw [h.2]; intro b hb; cases hb
  | .str s, v, fp, h => by rw [h.2]; intro b hb; cases hb
  | .ty s, v, fp, h => by rw [h.2]; intro b hb; cases hb
  | .tup ds, v, fp, ⟨a, vs, e, t, r⟩ => Reps.trk r
  | .lst g ds, v, fp, ⟨a, vs, f1, f2, e, n, r, z, e2⟩ => fun b hb => by
    rw [e2] at hb
    exact (List.mem_append.mp hb).elim (Nd.trk n trivial b) (Reps.trk r b)
  | .dct g ks ds, v, fp, ⟨a, vs, f1, f2, e, n, q, r, z, e2⟩ => fun b hb => by
    rw [e2] at hb
    exact (List.mem_append.mp hb).elim (Nd.trk n trivial b) (Reps.trk r b)
  | .obj g c ns ds, v, fp, ⟨a, Ca, dx, fs, f1, f2, e, c1, n, q, r, z, e2⟩ => fun b hb => by
    rw [e2] at hb
    exact (List.mem_append.mp hb).elim (Nd.trk n trivial b) (Reps.trk r b)
theorem Reps.trk : ∀ {ds : List D} {vs : List V} {fp : List Addr}, Reps C H ds vs fp → ∀ b ∈ fp, ∃ o, H b = some o ∧ Mutb o
  | [], vs, fp, h => by rw [h.2]; intro b hb; cases hb
  | d :: ds, vs, fp, ⟨v, vs', f1, f2, e, r, rs, e2⟩ => fun b hb => by
    rw [e2] at hb
    exact (List.mem_append.mp hb).elim (Rep.trk r b) (Reps.trk rs b)
end

/-- what stood at the entry and isn't ours stands (a locked thing is locked) -/
def Fr (C : Ctx) (H : Hp) : Prop := ∀ a o, C.H0 a = some o → a ∉ C.A → H a = some o ∨ (a ∈ C.Lk ∧ Mutb o ∧ ∃ ob, H a = some (.frz ob o))

theorem Nd.rd {g a u fp} (n : Nd C H g a u fp) (f : Fr C H) : RdK C.K H a u := by
  cases g with
  | m => exact .inl (.inl n.1)
  | l =>
    obtain ⟨⟨h | ⟨o, h⟩, na⟩ | h, _⟩ := n
    · rcases f a _ h na with q | ⟨_, _, ob, q⟩
      · exact .inl (.inl q)
      · exact .inl (.inr ⟨ob, q⟩)
    · rcases f a _ h na with q | ⟨_, mu, ob, q⟩
      · exact .inl (.inr ⟨o, q⟩)
      · exact mu.elim
    · exact .inr h
  | f => exact .inl (.inr n.1)
  | k => exact .inl (.inr n.1)
/-- the state is as env tells: fs the footprints by slots, tf those of what is held beside -/
structure Good (C : Ctx) (fs : FPs) (env : Env) (σ : St) (H : Hp) (tf : List Addr) : Prop where
  le : env.length = σ.length
  lf : fs.length = σ.length
  rep : ∀ i d, env[i]? = some (some d) → ∃ v, σ[i]? = some (some v) ∧ Rep C H d v (fs.getD i [])
  nd : (fs.flatten ++ tf).Nodup
  own : ∀ a ∈ fs.flatten ++ tf, a ∈ C.A ∨ C.H0 a = none
  trk : ∀ a ∈ fs.flatten ++ tf, ∃ o, H a = some o ∧ Mutb o
  fr : Fr C H
  lk : ∀ a ∈ C.Lk, ∃ ob u, H a = some (.frz ob u)

/-- from state to state: slots not in M are as they were, what is held beside too -/
structure Step (M : List Nat) (tf : List Addr) (fs : FPs) (env : Env) (H : Hp) (fs' : FPs) (env' : Env) (H' : Hp) : Prop where
  t : ∀ a ∈ tf, H' a = H a
  f : ∀ i, i ∉ M → fs'.getD i [] = fs.getD i []
  e : ∀ i, i ∉ M → env'[i]? = env[i]?
  h : ∀ i, i ∉ M → ∀ a ∈ fs.getD i [], H' a = H a
  m : Mono H H'
theorem Step.refl {M tf fs env H} : Step M tf fs env H fs env H := ⟨fun _ _ => rfl, fun _ _ => rfl, fun _ _ => rfl, fun _ _ _ _ => rfl, .refl H⟩
theorem Step.trans {M1 M2 tf fs env H fs1 env1 H1 fs2 env2 H2} (a : Step M1 tf fs env H fs1 env1 H1) (b : Step M2 tf fs1 env1 H1 fs2 env2 H2) : Step (M1 ++ M2) tf fs env H fs2 env2 H2 := by
  refine ⟨fun x hx => (b.t x hx).trans (a.t x hx), fun i hi => ?_, fun i hi => ?_, fun i hi x hx => ?_, a.m.trans b.m⟩
  all_goals rw [List.mem_append, not_or] at hi
  · exact (b.f i hi.2).trans (a.f i hi.1)
  · exact (b.e i hi.2).trans (a.e i hi.1)
  · exact (b.h i hi.2 x (by rw [a.f i hi.1]; exact hx)).trans (a.h i hi.1 x hx)
theorem Step.weak {M M' tf tf' fs env H fs1 env1 H1} (a : Step M tf fs env H fs1 env1 H1) (h : ∀ i ∈ M, i ∈ M') (ht : ∀ x ∈ tf', x ∈ tf) : Step M' tf' fs env H fs1 env1 H1 :=
  ⟨fun x hx => a.t x (ht x hx), fun i hi => a.f i fun z => hi (h i z), fun i hi => a.e i fun z => hi (h i z), fun i hi => a.h i fun z => hi (h i z), a.m⟩

theorem flat_set (fs : FPs) {i : Nat} (hi : i < fs.length) (x : List Addr) : (fs.set i x).flatten.Perm (x ++ (fs.set i []).flatten) := by
  induction fs generalizing i with
  | nil => cases hi
  | cons f fs ih =>
    cases i with
    | zero => simp
    | succ i =>
      simp only [List.set_cons_succ, List.flatten_cons]
      refine ((ih (by simpa using hi)).append_left f).trans ?_
      rw [← List.append_assoc, ← List.append_assoc]
      exact List.perm_append_comm.append_right _
theorem flat_get (fs : FPs) {i : Nat} (hi : i < fs.length) : fs.flatten.Perm (fs.getD i [] ++ (fs.set i []).flatten) := by
  have e : fs.set i (fs.getD i []) = fs := by
    rw [List.getD_eq_getElem?_getD, List.getElem?_eq_getElem hi]; simp
  have := flat_set fs hi (fs.getD i [])
  rwa [e] at this
theorem getD_set (fs : FPs) (i j : Nat) (x : List Addr) (hi : i < fs.length) : (fs.set i x).getD j [] = if j = i then x else fs.getD j [] := by
  rw [List.getD_eq_getElem?_getD, List.getElem?_set, List.getD_eq_getElem?_getD]
  by_cases e : j = i
  · subst e; simp [hi]
  · simp [e, Ne.symm e]
theorem mem_flat {fs : FPs} {i : Nat} {a : Addr} (h : a ∈ fs.getD i []) : a ∈ fs.flatten := by
  rw [List.getD_eq_getElem?_getD] at h
  cases q : fs[i]? with
  | none => rw [q] at h; simp at h
  | some x => rw [q] at h; exact List.mem_flatten.mpr ⟨x, List.mem_of_getElem? q, by simpa using h⟩
theorem Good.lt {fs env σ tf i d} (G : Good C fs env σ H tf) (h : env[i]? = some (some d)) : i < fs.length := by
  have := (List.getElem?_eq_some_iff.mp h).1
  rw [G.lf, ← G.le]; exact this
/-- slots' footprints stand apart -/
theorem Good.apart {fs env σ tf} (G : Good C fs env σ H tf) {i j : Nat} {a : Addr} (hij : i ≠ j) (hi : a ∈ fs.getD i []) : a ∉ fs.getD j [] := fun hj => by
  have lt : ∀ k : Nat, a ∈ fs.getD k [] → k < fs.length := fun k hk => by
    rw [List.getD_eq_getElem?_getD] at hk
    cases q : fs[k]? with
    | none => rw [q] at hk; simp at hk
    | some x => exact (List.getElem?_eq_some_iff.mp q).1
  have p := flat_get fs (lt i hi)
  have nd := (List.nodup_append.mp G.nd).1
  have nd2 := p.nodup_iff.mp nd
  have dj := (List.nodup_append.mp nd2).2.2 a hi a
  refine dj ?_ rfl
  have : a ∈ (fs.set i []).getD j [] := by rw [getD_set fs i j [] (lt i hi), if_neg (Ne.symm hij)]; exact hj
  exact mem_flat this
theorem Good.apartT {fs env σ tf} (G : Good C fs env σ H tf) {i : Nat} {a : Addr} (hi : a ∈ fs.getD i []) : a ∉ tf := fun hj =>
  (List.nodup_append.mp G.nd).2.2 a (mem_flat hi) a hj rfl
end
end VS

set_option maxRecDepth 100000
namespace VS
open PySem L2

structure Exn where
  cls : Str
  pay : Option (Str × D)

inductive R (α : Type) where
  | ok (a : α) (e : Env)
  | ex (x : Exn) (e : Env)
  | err
def R.bind {α β : Type} (r : R α) (f : α → Env → R β) : R β :=
  match r with
  | .ok a e => f a e
  | .ex x e => .ex x e
  | .err => .err
def R.of {α : Type} (o : Option α) (e : Env) : R α :=
  match o with
  | some a => .ok a e
  | none => .err
abbrev CE := Env → R D
abbrev CA := Env → R (List D)

def Ctx.At (C : Ctx) (X : Cx) : Prop := C.K = X.K ∧ C.mg = X.mg

def ExIs (C : Ctx) (x : Exn) (cv : Value) (dd : Option Addr) (H : Hp) : Prop :=
  ∃ Ca, C.mg x.cls = some (.ref Ca) ∧ cv = .ref Ca ∧
    match x.pay with
    | none => dd = none
    | some (f, d) => ∃ da v, dd = some da ∧ H da = some (.xd [(f, v)]) ∧ d.nol = true ∧ Rep C H d v []

section
variable (X : Cx) (W : WX) (C : Ctx)
def PostO (M : List Nat) (tf : List Addr) (fs : FPs) (env : Env) (σ : St) (H : Hp) (Q : VK) : R D → Prop
  | .ok d env' => ∀ v fs' H' fp, Good C fs' env' σ H' (fp ++ tf) → Step M tf fs env H fs' env' H' → Rep C H' d v fp → Q v H'
  | .ex x env' => ∀ cv dd fs' H', Good C fs' env' σ H' tf → Step M tf fs env H fs' env' H' → ExIs C x cv dd H' → W cv dd σ H'
  | .err => False
/-- where an operand's own nodes are -/
def In (R : List Nat) (own : List Addr) (fs : FPs) (fp : List Addr) : Prop := ∀ a ∈ fp, a ∈ own ∨ ∃ r ∈ R, a ∈ fs.getD r []
def PostB (M Rs : List Nat) (tf : List Addr) (fs : FPs) (env : Env) (σ : St) (H : Hp) (Q : VK) : R D → Prop
  | .ok d env' => ∀ v fs' H' fp own, Good C fs' env' σ H' (own ++ tf) → Step M tf fs env H fs' env' H' → Rep C H' d v fp → In Rs own fs' fp → Q v H'
  | .ex x env' => ∀ cv dd fs' H', Good C fs' env' σ H' tf → Step M tf fs env H fs' env' H' → ExIs C x cv dd H' → W cv dd σ H'
  | .err => False
def PostA (M Rs : List Nat) (tf : List Addr) (fs : FPs) (env : Env) (σ : St) (H : Hp) (Q : List V → Hp → Prop) : R (List D) → Prop
  | .ok ds env' => ∀ vs fs' H' fp own, Good C fs' env' σ H' (own ++ tf) → Step M tf fs env H fs' env' H' → Reps C H' ds vs fp → In Rs own fs' fp → Q vs H'
  | .ex x env' => ∀ cv dd fs' H', Good C fs' env' σ H' tf → Step M tf fs env H fs' env' H' → ExIs C x cv dd H' → W cv dd σ H'
  | .err => False
end
/-- an expression whose value is owned -/
structure SO (X : Cx) (W : WX) (M : List Nat) (e : Expr) (c : CE) : Prop where
  go : ∃ t, PE X e t ∧ ∀ C fs env σ H tf Q, C.At X → Good C fs env σ H tf → PostO W C M tf fs env σ H Q (c env) → t σ H Q
/-- an operand: it is looked at, it may lie within the slots Rs -/
structure SB (X : Cx) (W : WX) (M Rs : List Nat) (e : Expr) (c : CE) : Prop where
  go : ∃ t, PE X e t ∧ ∀ C fs env σ H tf Q, C.At X → Good C fs env σ H tf → PostB W C M Rs tf fs env σ H Q (c env) → t σ H Q
structure SA (X : Cx) (W : WX) (M Rs : List Nat) (es : List Expr) (c : CA) : Prop where
  go : ∃ t, PA X es t ∧ ∀ C fs env σ H tf Q, C.At X → Good C fs env σ H tf → PostA W C M Rs tf fs env σ H Q (c env) → t σ H Q

def Le (H H' : Hp) : Prop := ∀ a o, H a = some o → H' a = some o
theorem Le.refl (H : Hp) : Le H H := fun _ _ h => h
theorem Le.trans {H H1 H2 : Hp} (a : Le H H1) (b : Le H1 H2) : Le H H2 := fun x o h => b x o (a x o h)
theorem Le.new {H : Hp} {a : Addr} {o : HO} (h : H a = none) : Le H (upd H a o) := fun b u e => by rw [upd_ne (ne_of_none e h)]; exact e
theorem Le.mono {H H' : Hp} (h : Le H H') : Mono H H' := ⟨fun a xs e => h a _ e, fun a o u e => h a _ e⟩
theorem Le.at {H H' : Hp} (h : Le H H') {a : Addr} {P : HO → Prop} (t : ∃ o, H a = some o ∧ P o) : H' a = H a := by
  obtain ⟨o, e, _⟩ := t
  rw [e]; exact h a o e

section
variable {C : Ctx} {H H' H1 H2 : Hp} {fs fs' : FPs} {env env' : Env} {σ : St} {tf fp own : List Addr} {M Rs : List Nat}
theorem Rep.le {d v} (r : Rep C H d v fp) (h : Le H H') : Rep C H' d v fp := r.keep (fun a ha => h.at (r.trk a ha)) h.mono
theorem Reps.le {ds vs} (r : Reps C H ds vs fp) (h : Le H H') : Reps C H' ds vs fp := r.keep (fun a ha => h.at (r.trk a ha)) h.mono
theorem Fr.le (f : Fr C H) (h : Le H H') : Fr C H' := fun a o e na => by
  rcases f a o e na with q | ⟨q1, q2, ob, q3⟩
  · exact .inl (h _ _ q)
  · exact .inr ⟨q1, q2, ob, h _ _ q3⟩
theorem Fr.fresh (f : Fr C H) {a : Addr} (n : H a = none) : a ∈ C.A ∨ C.H0 a = none := by
  by_cases ha : a ∈ C.A
  · exact .inl ha
  · cases q : C.H0 a with
    | none => exact .inr rfl
    | some o =>
      rcases f a o q ha with z | ⟨_, _, ob, z⟩
      · rw [n] at z; cases z
      · rw [n] at z; cases z
/-- the heap has grown by fp -/
theorem Good.grow (G : Good C fs env σ H tf) (h : Le H H') (nd : fp.Nodup) (nw : ∀ a ∈ fp, H a = none) (tk : ∀ a ∈ fp, ∃ o, H' a = some o ∧ Mutb o) : Good C fs env σ H' (fp ++ tf) where
  le := G.le
  lf := G.lf
  rep := fun i d e => let ⟨v, e1, r⟩ := G.rep i d e; ⟨v, e1, r.le h⟩
  nd := by
    have p : (fs.flatten ++ (fp ++ tf)).Perm (fp ++ (fs.flatten ++ tf)) := by
      rw [← List.append_assoc, ← List.append_assoc]
      exact List.perm_append_comm.append_right _
    refine p.nodup_iff.mpr (List.nodup_append.mpr ⟨nd, G.nd, fun a ha b hb e => ?_⟩)
    subst e
    obtain ⟨o, q, _⟩ := G.trk a hb
    rw [nw a ha] at q; cases q
  own := fun a ha => by
    rcases List.mem_append.mp ha with z | z
    · exact G.own a (List.mem_append_left _ z)
    · rcases List.mem_append.mp z with z | z
      · exact G.fr.fresh (nw a z)
      · exact G.own a (List.mem_append_right _ z)
  trk := fun a ha => by
    rcases List.mem_append.mp ha with z | z
    · obtain ⟨o, q, mu⟩ := G.trk a (List.mem_append_left _ z)
      exact ⟨o, h _ _ q, mu⟩
    · rcases List.mem_append.mp z with z | z
      · exact tk a z
      · obtain ⟨o, q, mu⟩ := G.trk a (List.mem_append_right _ z)
        exact ⟨o, h _ _ q, mu⟩
  fr := G.fr.le h
  lk := fun a ha => let ⟨ob, u, e⟩ := G.lk a ha; ⟨ob, u, h _ _ e⟩
theorem Good.le' (G : Good C fs env σ H tf) (h : Le H H') : Good C fs env σ H' tf := G.grow (fp := []) h .nil (fun _ z => nomatch z) fun _ z => nomatch z
/-- what is held beside may be dropped -/
theorem Good.sub {tf' : List Addr} (G : Good C fs env σ H tf) (h : tf'.Sublist tf) : Good C fs env σ H tf' where
  le := G.le
  lf := G.lf
  rep := G.rep
  nd := G.nd.sublist ((List.Sublist.refl _).append h)
  own := fun a ha => G.own a (by
    rcases List.mem_append.mp ha with z | z
    · exact List.mem_append_left _ z
    · exact List.mem_append_right _ (h.subset z))
  trk := fun a ha => G.trk a (by
    rcases List.mem_append.mp ha with z | z
    · exact List.mem_append_left _ z
    · exact List.mem_append_right _ (h.subset z))
  fr := G.fr
  lk := G.lk
theorem Good.drop (G : Good C fs env σ H (own ++ tf)) : Good C fs env σ H tf := G.sub (List.sublist_append_right _ _)
theorem Step.grow (G : Good C fs env σ H tf) (h : Le H H') : Step M tf fs env H fs env H' :=
  ⟨fun a ha => h.at (G.trk a (List.mem_append_right _ ha)), fun _ _ => rfl, fun _ _ => rfl, fun i _ a ha => h.at (G.trk a (List.mem_append_left _ (mem_flat ha))), h.mono⟩
/-- an operand stands through a later step that leaves its slots -/
theorem In.keep (hi : In Rs own fs fp) (s : Step M (own ++ tf) fs env H1 fs' env' H2) (hd : ∀ r ∈ Rs, r ∉ M) : ∀ a ∈ fp, H2 a = H1 a := fun a ha => by
  rcases hi a ha with z | ⟨r, hr, z⟩
  · exact s.t a (List.mem_append_left _ z)
  · exact s.h r (hd r hr) a z
theorem In.step {own2 : List Addr} (hi : In Rs own fs fp) (s : Step M (own ++ tf) fs env H1 fs' env' H2) (hd : ∀ r ∈ Rs, r ∉ M) : In Rs (own2 ++ own) fs' fp := fun a ha => by
  rcases hi a ha with z | ⟨r, hr, z⟩
  · exact .inl (List.mem_append_right _ z)
  · exact .inr ⟨r, hr, by rw [s.f r (hd r hr)]; exact z⟩
theorem In.mono {Rs' : List Nat} {own' : List Addr} (hi : In Rs own fs fp) (h : ∀ r ∈ Rs, r ∈ Rs') (ho : ∀ a ∈ own, a ∈ own') : In Rs' own' fs fp := fun a ha => by
  rcases hi a ha with z | ⟨r, hr, z⟩
  · exact .inl (ho a z)
  · exact .inr ⟨r, h r hr, z⟩
end

def djB (Rs M : List Nat) : Bool := Rs.all fun r => !M.contains r
theorem djB_ok {Rs M : List Nat} (h : djB Rs M = true) : ∀ r ∈ Rs, r ∉ M := fun r hr hm => by
  have := List.all_eq_true.mp h r hr
  simp [hm] at this

section
variable {X : Cx} {W : WX} {M M1 M2 Rs R1 R2 : List Nat} {e a b : Expr} {es : List Expr} {ca cb : CE} {cs : CA}
/-- owned: looked at -/
theorem SO.sb (h : SO X W M e ca) : SB X W M [] e ca := by
  obtain ⟨t, p, q⟩ := h.go
  refine ⟨t, p, fun C fs env σ H tf Q hC G po => q C fs env σ H tf Q hC G ?_⟩
  cases e1 : ca env with
  | ok d env' =>
    rw [e1] at po
    exact fun v fs' H' fp G' s r => po v fs' H' fp fp G' s r fun x hx => .inl hx
  | ex x env' => rw [e1] at po; exact po
  | err => rw [e1] at po; exact po
/-- an operand without nodes of ours: owned -/
def cImm (c : CE) : CE := fun env => (c env).bind fun d env => if d.imm then .ok d env else .err
theorem SB.imm (h : SB X W M Rs e ca) : SO X W M e (cImm ca) := by
  obtain ⟨t, p, q⟩ := h.go
  refine ⟨t, p, fun C fs env σ H tf Q hC G po => q C fs env σ H tf Q hC G ?_⟩
  unfold cImm at po
  cases e1 : ca env with
  | ok d env' =>
    rw [e1] at po
    intro v fs' H' fp own G' s r hi
    have po' : PostO W C M tf fs env σ H Q (if d.imm then .ok d env' else .err) := po
    by_cases hd : d.imm = true
    · rw [if_pos hd] at po'
      have z := r.imm hd
      subst z
      exact po' v fs' H' [] (by simpa using G'.drop) s r
    · rw [if_neg hd] at po'; exact po'.elim
  | ex x env' => rw [e1] at po; exact po
  | err => rw [e1] at po; exact po
def cNil : CA := fun env => .ok [] env
def cCons (c : CE) (cs : CA) : CA := fun env => (c env).bind fun d env => (cs env).bind fun ds env => .ok (d :: ds) env
theorem sa_nil : SA X W [] [] [] cNil := by
  refine ⟨tNil, pa_nil, fun C fs env σ H tf Q hC G po => ?_⟩
  exact po [] fs H [] [] (by simpa using G) .refl ⟨rfl, rfl⟩ fun _ z => nomatch z
/-- two things in a row: the first is kept -/
theorem sa_cons (ha : SB X W M1 R1 a ca) (hr : SA X W M2 R2 es cs) (hd : djB R1 M2 = true := by decide) (hs : starEach (a :: es) X.env = (false, eval a X.env) :: starEach es X.env := by rfl) :
    SA X W (M1 ++ M2) (R1 ++ R2) (a :: es) (cCons ca cs) := by
  obtain ⟨t, p, q⟩ := ha.go
  obtain ⟨t2, p2, q2⟩ := hr.go
  refine ⟨tCons t t2, pa_cons p p2 hs, fun C fs env σ H tf Q hC G po => ?_⟩
  refine q C fs env σ H tf _ hC G ?_
  unfold cCons at po
  cases e1 : ca env with
  | err => rw [e1] at po; exact po
  | ex x env' =>
    rw [e1] at po
    exact fun cv dd fs' H' G' s => po cv dd fs' H' G' (s.weak (fun i hi => List.mem_append_left _ hi) fun _ z => z)
  | ok d env1 =>
    rw [e1] at po
    intro v fs1 H1 fp1 own1 G1 s1 r1 i1
    refine q2 C fs1 env1 σ H1 (own1 ++ tf) _ hC G1 ?_
    have po' : PostA W C (M1 ++ M2) (R1 ++ R2) tf fs env σ H Q ((cs env1).bind fun ds env => .ok (d :: ds) env) := po
    cases e2 : cs env1 with
    | err => rw [e2] at po'; exact po'
    | ex x env' =>
      rw [e2] at po'
      exact fun cv dd fs' H' G' s => po' cv dd fs' H' G'.drop (s1.trans (s.weak (fun _ z => z) fun x hx => List.mem_append_right _ hx))
    | ok ds env2 =>
      rw [e2] at po'
      intro vs fs2 H2 fp2 own2 G2 s2 r2 i2
      have po2 : ∀ vs fs' H' fp own, Good C fs' env2 σ H' (own ++ tf) → Step (M1 ++ M2) tf fs env H fs' env2 H' → Reps C H' (d :: ds) vs fp → In (R1 ++ R2) own fs' fp → Q vs H' := po'
      have k1 := i1.keep s2 (djB_ok hd)
      refine po2 (v :: vs) fs2 H2 (fp1 ++ fp2) (own2 ++ own1) (by rw [List.append_assoc]; exact G2) (s1.trans (s2.weak (fun _ z => z) fun x hx => List.mem_append_right _ hx)) ⟨v, vs, fp1, fp2, rfl, r1.keep k1 s2.m, r2, rfl⟩ ?_
      intro x hx
      rcases List.mem_append.mp hx with z | z
      · exact (i1.step (own2 := own2) s2 (djB_ok hd)).mono (fun r hr => List.mem_append_left _ hr) (fun _ z => z) x z
      · exact i2.mono (fun r hr => List.mem_append_right _ hr) (fun _ z => List.mem_append_left _ z) x z
end
end VS

set_option maxRecDepth 100000
namespace VS
open PySem L2

section
variable {X : Cx} {W : WX} {M M1 M2 M3 Rs R1 R2 R3 : List Nat} {e a b c : Expr} {es : List Expr} {ca cb cc : CE} {cs : CA} {pos : Pos}

/-! ### names, constants -/
def cVar (i : Nat) : CE := fun env => match env[i]? with
  | some (some d) => .ok d env
  | _ => .err
theorem sb_var (i : Nat) {x : Str} (hN : X.N[i]? = some x := by rfl) (hv : Vis X.env.scope x := by first | exact Or.inl rfl | exact Or.inr (Or.inl rfl) | exact Or.inr (Or.inr rfl)) (hd : (x == ("__debug__" : Str)) = false := by decide)
    (hcd : (x == ("__classdict__" : Str)) = false := by decide) : SB X W [] [i] (.Name x pos) (cVar i) := by
  refine ⟨tVar i, pe_var hN hv hd hcd, fun C fs env σ H tf Q hC G po => ?_⟩
  unfold cVar at po
  split at po
  · rename_i d e1
    obtain ⟨v, e2, r⟩ := G.rep i d e1
    exact ⟨v, e2, po v fs H _ [] (by simpa using G) .refl r fun a ha => .inr ⟨i, by simp, ha⟩⟩
  · exact po.elim
/-- a name's value is moved out -/
def cMv (i : Nat) : CE := fun env => match env[i]? with
  | some (some d) => .ok d (env.set i none)
  | _ => .err
theorem Good.mv {C : Ctx} {fs : FPs} {env : Env} {σ : St} {H : Hp} {tf : List Addr} {i : Nat} {d : D} (G : Good C fs env σ H tf) (h : env[i]? = some (some d)) :
    Good C (fs.set i []) (env.set i none) σ H (fs.getD i [] ++ tf) := by
  have hl := G.lt h
  have p : ((fs.set i []).flatten ++ (fs.getD i [] ++ tf)).Perm (fs.flatten ++ tf) := by
    rw [← List.append_assoc]
    refine List.Perm.append_right _ ?_
    exact (List.perm_append_comm).trans (flat_get fs hl).symm
  refine ⟨by simpa using G.le, by simpa using G.lf, fun j d' e => ?_, p.nodup_iff.mpr G.nd, fun a ha => G.own a (p.mem_iff.mp ha), fun a ha => G.trk a (p.mem_iff.mp ha), G.fr, G.lk⟩
  rw [List.getElem?_set] at e
  by_cases hj : i = j
  · subst hj; simp at e
  · rw [if_neg hj] at e
    obtain ⟨v, e1, r⟩ := G.rep j d' e
    exact ⟨v, e1, by rw [getD_set fs i j [] hl, if_neg (Ne.symm hj)]; exact r⟩
theorem so_mv (i : Nat) {x : Str} (hN : X.N[i]? = some x := by rfl) (hv : Vis X.env.scope x := by first | exact Or.inl rfl | exact Or.inr (Or.inl rfl) | exact Or.inr (Or.inr rfl)) (hd : (x == ("__debug__" : Str)) = false := by decide)
    (hcd : (x == ("__classdict__" : Str)) = false := by decide) : SO X W [i] (.Name x pos) (cMv i) := by
  refine ⟨tVar i, pe_var hN hv hd hcd, fun C fs env σ H tf Q hC G po => ?_⟩
  unfold cMv at po
  split at po
  · rename_i d e1
    obtain ⟨v, e2, r⟩ := G.rep i d e1
    refine ⟨v, e2, po v (fs.set i []) H _ (G.mv e1) ⟨fun _ _ => rfl, fun j hj => ?_, fun j hj => ?_, fun _ _ _ _ => rfl, .refl H⟩ r⟩
    · rw [getD_set fs i j [] (G.lt e1), if_neg (by simpa using hj)]
    · rw [List.getElem?_set, if_neg (by intro z; subst z; simp at hj)]
  · exact po.elim
def cK (d : D) : CE := fun env => .ok d env
theorem so_k {v : V} {d : D} {t : TE} (p : PE X e t) (ht : ∀ σ H Q, Q v H → t σ H Q) (hr : ∀ C H, Rep C H d v []) : SO X W [] e (cK d) :=
  ⟨t, p, fun C fs env σ H tf Q hC G po => ht σ H Q (po v fs H [] (by simpa using G) .refl (hr C H))⟩
theorem so_int {i j} : SO X W [] (.Constant (.int i) j pos) (cK (.int i)) := so_k pe_int (fun _ _ _ h => h) fun _ _ => ⟨rfl, rfl⟩
theorem so_bl {b j} : SO X W [] (.Constant (.bool b) j pos) (cK (.bl b)) := so_k pe_bl (fun _ _ _ h => h) fun _ _ => ⟨rfl, rfl⟩
theorem so_non {j} : SO X W [] (.Constant .none j pos) (cK .non) := so_k pe_non (fun _ _ _ h => h) fun _ _ => ⟨rfl, rfl⟩
theorem so_str {x j} : SO X W [] (.Constant (.str x) j pos) (cK (.str x)) := so_k pe_str (fun _ _ _ h => h) fun _ _ => ⟨rfl, rfl⟩

/-! ### two operands -/
def cTwo (ca cb : CE) : Env → R (D × D) := fun env => (ca env).bind fun x env => (cb env).bind fun y env => .ok (x, y) env
def c2 (p : D → D → Option D) (ca cb : CE) : CE := fun env => (cTwo ca cb env).bind fun xy env => R.of (p xy.1 xy.2) env
def Post2 (W : WX) (C : Ctx) (M R1 R2 : List Nat) (tf : List Addr) (fs : FPs) (env : Env) (σ : St) (H : Hp) (Q : V → V → Hp → Prop) : R (D × D) → Prop
  | .ok d env' => ∀ x y fs' H' f1 f2 own, Good C fs' env' σ H' (own ++ tf) → Step M tf fs env H fs' env' H' → Rep C H' d.1 x f1 → Rep C H' d.2 y f2 → In R1 own fs' f1 → In R2 own fs' f2 → Q x y H'
  | .ex x env' => ∀ cv dd fs' H', Good C fs' env' σ H' tf → Step M tf fs env H fs' env' H' → ExIs C x cv dd H' → W cv dd σ H'
  | .err => False
theorem two_go (ha : SB X W M1 R1 a ca) (hb : SB X W M2 R2 b cb) (hd : djB R1 M2 = true) : ∃ ta tb, PE X a ta ∧ PE X b tb ∧ ∀ C fs env σ H tf Q, C.At X → Good C fs env σ H tf →
    Post2 W C (M1 ++ M2) R1 R2 tf fs env σ H Q (cTwo ca cb env) → ta σ H fun x H1 => tb σ H1 fun y H2 => Q x y H2 := by
  obtain ⟨t, p, q⟩ := ha.go
  obtain ⟨t2, p2, q2⟩ := hb.go
  refine ⟨t, t2, p, p2, fun C fs env σ H tf Q hC G po => ?_⟩
  refine q C fs env σ H tf _ hC G ?_
  unfold cTwo at po
  cases e1 : ca env with
  | err => rw [e1] at po; exact po
  | ex x env' =>
    rw [e1] at po
    exact fun cv dd fs' H' G' s => po cv dd fs' H' G' (s.weak (fun i hi => List.mem_append_left _ hi) fun _ z => z)
  | ok d env1 =>
    rw [e1] at po
    intro v fs1 H1 fp1 own1 G1 s1 r1 i1
    refine q2 C fs1 env1 σ H1 (own1 ++ tf) _ hC G1 ?_
    have po' : Post2 W C (M1 ++ M2) R1 R2 tf fs env σ H Q ((cb env1).bind fun y env => .ok (d, y) env) := po
    cases e2 : cb env1 with
    | err => rw [e2] at po'; exact po'
    | ex x env' =>
      rw [e2] at po'
      exact fun cv dd fs' H' G' s => po' cv dd fs' H' G'.drop (s1.trans (s.weak (fun _ z => z) fun x hx => List.mem_append_right _ hx))
    | ok d2 env2 =>
      rw [e2] at po'
      intro v2 fs2 H2 fp2 own2 G2 s2 r2 i2
      have po2 : ∀ x y fs' H' f1 f2 own, Good C fs' env2 σ H' (own ++ tf) → Step (M1 ++ M2) tf fs env H fs' env2 H' → Rep C H' d x f1 → Rep C H' d2 y f2 → In R1 own fs' f1 → In R2 own fs' f2 → Q x y H' := po'
      exact po2 v v2 fs2 H2 fp1 fp2 (own2 ++ own1) (by rw [List.append_assoc]; exact G2) (s1.trans (s2.weak (fun _ z => z) fun x hx => List.mem_append_right _ hx)) (r1.keep (i1.keep s2 (djB_ok hd)) s2.m) r2
        (i1.step (own2 := own2) s2 (djB_ok hd)) (i2.mono (fun _ z => z) fun _ z => List.mem_append_left _ z)

/-- what a step on values comes to, by trees -/
def Comes (C : Ctx) (H : Hp) (d : D) (Q : VK) : Prop := ∀ v H' fp, Le H H' → Rep C H' d v fp → fp.Nodup → (∀ a ∈ fp, H a = none) → Q v H'
structure Pr2 (X : Cx) (r : L2.R2) (p : D → D → Option D) : Prop where
  run : ∀ C H x y dx dy fx fy d Q, C.At X → Fr C H → Rep C H dx x fx → Rep C H dy y fy → p dx dy = some d → Comes C H d Q → r x y H Q
structure Pr1 (X : Cx) (r : V → Hp → VK → Prop) (p : D → Option D) : Prop where
  run : ∀ C H x dx fx d Q, C.At X → Fr C H → Rep C H dx x fx → p dx = some d → Comes C H d Q → r x H Q
structure PrL (X : Cx) (r : List V → Hp → VK → Prop) (p : List D → Option D) : Prop where
  run : ∀ C H xs dxs fx d Q, C.At X → Fr C H → Reps C H dxs xs fx → p dxs = some d → Comes C H d Q → r xs H Q

theorem comes_post {C : Ctx} {fs fs1 : FPs} {env env1 : Env} {σ : St} {H H1 : Hp} {tf own : List Addr} {d : D} {Q : VK} (G1 : Good C fs1 env1 σ H1 (own ++ tf)) (s1 : Step M tf fs env H fs1 env1 H1)
    (po : PostO W C M tf fs env σ H Q (.ok d env1)) : Comes C H1 d Q := fun v H' fp le r nd nw =>
  po v fs1 H' fp (G1.drop.grow le nd nw r.trk) (by
    have := s1.trans (Step.grow (M := []) G1.drop le)
    simpa using this) r
theorem so_op {op : Operator} {r : L2.R2} {p : D → D → Option D} (ho : OpR X (binaryOp op) r) (hp : Pr2 X r p) (ha : SB X W M1 R1 a ca) (hb : SB X W M2 R2 b cb) (hd : djB R1 M2 = true := by decide) :
    SO X W (M1 ++ M2) (.BinOp a op b pos) (c2 p ca cb) := by
  obtain ⟨ta, tb, pa, pb, q⟩ := two_go ha hb hd
  refine ⟨tOp r ta tb, pe_op ho pa pb, fun C fs env σ H tf Q hC G po => q C fs env σ H tf _ hC G ?_⟩
  unfold c2 at po
  cases e1 : cTwo ca cb env with
  | err => rw [e1] at po; exact po
  | ex x env' => rw [e1] at po; exact po
  | ok d env' =>
    rw [e1] at po
    intro x y fs' H' f1 f2 own G' s r1 r2 i1 i2
    have po' : PostO W C (M1 ++ M2) tf fs env σ H Q (R.of (p d.1 d.2) env') := po
    cases e2 : p d.1 d.2 with
    | none => rw [e2] at po'; exact po'.elim
    | some z =>
      rw [e2] at po'
      exact hp.run C H' x y d.1 d.2 f1 f2 z Q hC G'.fr r1 r2 e2 (comes_post G' s po')
theorem so_cmp {op : CmpOp} {r : L2.R2} {p : D → D → Option D} (ho : OpR X (compareOp op) r) (hp : Pr2 X r p) (ha : SB X W M1 R1 a ca) (hb : SB X W M2 R2 b cb) (hm : behindInMarks op b = false := by first | exact nomark _ | rfl) (hd : djB R1 M2 = true := by decide) :
    SO X W (M1 ++ M2) (.Compare a [op] [b] pos) (c2 p ca cb) := by
  obtain ⟨ta, tb, pa, pb, q⟩ := two_go ha hb hd
  refine ⟨tOp r ta tb, pe_cmpR ho pa pb hm, fun C fs env σ H tf Q hC G po => q C fs env σ H tf _ hC G ?_⟩
  unfold c2 at po
  cases e1 : cTwo ca cb env with
  | err => rw [e1] at po; exact po
  | ex x env' => rw [e1] at po; exact po
  | ok d env' =>
    rw [e1] at po
    intro x y fs' H' f1 f2 own G' s r1 r2 i1 i2
    have po' : PostO W C (M1 ++ M2) tf fs env σ H Q (R.of (p d.1 d.2) env') := po
    cases e2 : p d.1 d.2 with
    | none => rw [e2] at po'; exact po'.elim
    | some z =>
      rw [e2] at po'
      exact hp.run C H' x y d.1 d.2 f1 f2 z Q hC G'.fr r1 r2 e2 (comes_post G' s po')
def c1 (p : D → Option D) (ca : CE) : CE := fun env => (ca env).bind fun x env => R.of (p x) env
theorem so_un {op : UnaryOp} {r : V → Hp → VK → Prop} {p : D → Option D} (ho : UnR X (unaryOp op) r) (hp : Pr1 X r p) (ha : SB X W M1 R1 a ca) : SO X W M1 (.UnaryOp op a pos) (c1 p ca) := by
  obtain ⟨ta, pa, q⟩ := ha.go
  refine ⟨tUn r ta, pe_un ho pa, fun C fs env σ H tf Q hC G po => q C fs env σ H tf _ hC G ?_⟩
  unfold c1 at po
  cases e1 : ca env with
  | err => rw [e1] at po; exact po
  | ex x env' => rw [e1] at po; exact po
  | ok d env' =>
    rw [e1] at po
    intro x fs' H' f1 own G' s r1 i1
    have po' : PostO W C M1 tf fs env σ H Q (R.of (p d) env') := po
    cases e2 : p d with
    | none => rw [e2] at po'; exact po'.elim
    | some z =>
      rw [e2] at po'
      exact hp.run C H' x d f1 z Q hC G'.fr r1 e2 (comes_post G' s po')

/-! ### tests -/
abbrev CT := Env → R Bool
def PostT (W : WX) (C : Ctx) (M : List Nat) (tf : List Addr) (fs : FPs) (env : Env) (σ : St) (H : Hp) (Q : Bool → Hp → Prop) : R Bool → Prop
  | .ok b env' => ∀ fs' H', Good C fs' env' σ H' tf → Step M tf fs env H fs' env' H' → Q b H'
  | .ex x env' => ∀ cv dd fs' H', Good C fs' env' σ H' tf → Step M tf fs env H fs' env' H' → ExIs C x cv dd H' → W cv dd σ H'
  | .err => False
structure ST (X : Cx) (W : WX) (M : List Nat) (e : Expr) (c : CT) : Prop where
  go : ∃ t, PT X e t ∧ ∀ C fs env σ H tf Q, C.At X → Good C fs env σ H tf → PostT W C M tf fs env σ H Q (c env) → t σ H Q
structure SW (X : Cx) (W : WX) (M : List Nat) (e : Expr) (c : CT) : Prop where
  go : ∃ t, PW X e t ∧ ∀ C fs env σ H tf Q, C.At X → Good C fs env σ H tf → PostT W C M tf fs env σ H Q (c env) → t σ H Q
theorem SW.st {c : CT} (h : SW X W M e c) : ST X W M e c := by
  obtain ⟨t, p, q⟩ := h.go
  exact ⟨t, p.pt, q⟩
def D.tt : D → Option Bool
  | .bl b => some b
  | _ => none
def cTt (ca : CE) : CT := fun env => (ca env).bind fun d env => R.of d.tt env
theorem tt_of {C : Ctx} {H : Hp} {d : D} {v : V} {fp : List Addr} {k : Bool} (r : Rep C H d v fp) (h : d.tt = some k) : v = .bl k := by
  cases d <;> simp [D.tt] at h
  subst h
  exact r.1
/-- a value that is a truth, as a test -/
theorem st_tt {t : TE} (ht : PT X e (tB t)) (hs : ∀ C fs env σ H tf Q, C.At X → Good C fs env σ H tf → PostB W C M Rs tf fs env σ H Q (ca env) → t σ H Q) : ST X W M e (cTt ca) := by
  refine ⟨tB t, ht, fun C fs env σ H tf Q hC G po => hs C fs env σ H tf _ hC G ?_⟩
  unfold cTt at po
  cases e1 : ca env with
  | err => rw [e1] at po; exact po
  | ex x env' => rw [e1] at po; exact po
  | ok d env' =>
    rw [e1] at po
    intro x fs' H' f1 own G' s r1 i1
    have po' : PostT W C M tf fs env σ H Q (R.of d.tt env') := po
    cases e2 : d.tt with
    | none => rw [e2] at po'; exact po'.elim
    | some k =>
      rw [e2] at po'
      exact ⟨k, tt_of r1 e2, po' fs' H' G'.drop s⟩
theorem st_val (h : SB X W M Rs e ca) (he : ∀ whole, isTrue e X.env whole = (do let v ← whole; standAt e.pos; holding [v] (truthy v)) := by intro _; rfl) : ST X W M e (cTt ca) := by
  obtain ⟨t, p, q⟩ := h.go
  exact st_tt (pt_val p he) q
theorem post_ob {C : Ctx} {fs : FPs} {env : Env} {σ : St} {H : Hp} {tf : List Addr} {Q : VK} {z : R D} (po : PostB W C M [] tf fs env σ H Q z) : PostO W C M tf fs env σ H Q z := by
  cases z with
  | err => exact po
  | ex x env' => exact po
  | ok d env' => exact fun v fs' H' fp G' s r => po v fs' H' fp fp G' s r fun x hx => .inl hx
/-- a comparison as a test -/
theorem st_cmp {op : CmpOp} {r : L2.R2} {p : D → D → Option D} (ho : OpR X (compareOp op) r) (hp : Pr2 X r p) (ha : SB X W M1 R1 a ca) (hb : SB X W M2 R2 b cb) (hm : behindInMarks op b = false := by first | exact nomark _ | rfl) (hd : djB R1 M2 = true := by decide) :
    ST X W (M1 ++ M2) (.Compare a [op] [b] pos) (cTt (c2 p ca cb)) := by
  obtain ⟨ta, tb, pa, pb, q⟩ := two_go ha hb hd
  refine st_tt (Rs := []) (t := tOp r ta tb) (pt_cmpR ho pa pb hm) fun C fs env σ H tf Q hC G po => q C fs env σ H tf _ hC G ?_
  have po := post_ob po
  unfold c2 at po
  cases e1 : cTwo ca cb env with
  | err => rw [e1] at po; exact po
  | ex x env' => rw [e1] at po; exact po
  | ok d env' =>
    rw [e1] at po
    intro x y fs' H' f1 f2 own G' s r1 r2 i1 i2
    have po' : PostO W C (M1 ++ M2) tf fs env σ H Q (R.of (p d.1 d.2) env') := po
    cases e2 : p d.1 d.2 with
    | none => rw [e2] at po'; exact po'.elim
    | some z =>
      rw [e2] at po'
      exact hp.run C H' x y d.1 d.2 f1 f2 z Q hC G'.fr r1 r2 e2 (comes_post G' s po')
def tcAnd (ca cb : CT) : CT := fun env => (ca env).bind fun b env => if b = true then cb env else .ok false env
def tcOr (ca cb : CT) : CT := fun env => (ca env).bind fun b env => if b = true then .ok true env else cb env
def tcNot (ca : CT) : CT := fun env => (ca env).bind fun b env => .ok (!b) env
variable {ta tb : CT}
theorem sw_and1 (h : ST X W M a ta) : SW X W M (.BoolOp .And [a] pos) ta := by
  obtain ⟨t, p, q⟩ := h.go
  exact ⟨t, pw_and1 p, q⟩
theorem sw_or1 (h : ST X W M a ta) : SW X W M (.BoolOp .Or [a] pos) ta := by
  obtain ⟨t, p, q⟩ := h.go
  exact ⟨t, pw_or1 p, q⟩
theorem seqT {C : Ctx} {fs : FPs} {env : Env} {σ : St} {H : Hp} {tf : List Addr} {Q : Bool → Hp → Prop} {f : Bool → CT} {t u : TT} (hC : C.At X) (G : Good C fs env σ H tf)
    (ht : ∀ C fs env σ H tf Q, C.At X → Good C fs env σ H tf → PostT W C M1 tf fs env σ H Q (ta env) → t σ H Q)
    (po : PostT W C (M1 ++ M2) tf fs env σ H Q ((ta env).bind fun b env => f b env)) {K : Bool → Hp → Prop}
    (hK : ∀ b fs1 env1 H1, Good C fs1 env1 σ H1 tf → Step M1 tf fs env H fs1 env1 H1 → PostT W C M2 tf fs1 env1 σ H1 Q (f b env1) → K b H1) : t σ H K := by
  refine ht C fs env σ H tf _ hC G ?_
  cases e1 : ta env with
  | err => rw [e1] at po; exact po
  | ex x env' =>
    rw [e1] at po
    exact fun cv dd fs' H' G' s => po cv dd fs' H' G' (s.weak (fun i hi => List.mem_append_left _ hi) fun _ z => z)
  | ok d env1 =>
    rw [e1] at po
    intro fs1 H1 G1 s1
    refine hK d fs1 env1 H1 G1 s1 ?_
    have po' : PostT W C (M1 ++ M2) tf fs env σ H Q (f d env1) := po
    cases e2 : f d env1 with
    | err => rw [e2] at po'; exact po'
    | ex x env' =>
      rw [e2] at po'
      exact fun cv dd fs' H' G' s => po' cv dd fs' H' G' (s1.trans s)
    | ok d2 env2 =>
      rw [e2] at po'
      exact fun fs2 H2 G2 s2 => po' fs2 H2 G2 (s1.trans s2)
theorem sw_and (ha : ST X W M1 a ta) (hb : SW X W M2 (.BoolOp .And (b :: es) pos) tb) : SW X W (M1 ++ M2) (.BoolOp .And (a :: b :: es) pos) (tcAnd ta tb) := by
  obtain ⟨t, p, q⟩ := ha.go
  obtain ⟨t2, p2, q2⟩ := hb.go
  refine ⟨tAnd t t2, pw_and p p2, fun C fs env σ H tf Q hC G po => ?_⟩
  refine seqT (M1 := M1) (M2 := M2) (ta := ta) (f := fun b env => if b = true then tb env else .ok false env) (u := t2) hC G q po fun b fs1 env1 H1 G1 s1 po1 => ?_
  cases b with
  | true => exact q2 C fs1 env1 σ H1 tf Q hC G1 po1
  | false => exact po1 fs1 H1 G1 .refl
theorem sw_or (ha : ST X W M1 a ta) (hb : SW X W M2 (.BoolOp .Or (b :: es) pos) tb) : SW X W (M1 ++ M2) (.BoolOp .Or (a :: b :: es) pos) (tcOr ta tb) := by
  obtain ⟨t, p, q⟩ := ha.go
  obtain ⟨t2, p2, q2⟩ := hb.go
  refine ⟨tOr t t2, pw_or p p2, fun C fs env σ H tf Q hC G po => ?_⟩
  refine seqT (M1 := M1) (M2 := M2) (ta := ta) (f := fun b env => if b = true then .ok true env else tb env) (u := t2) hC G q po fun b fs1 env1 H1 G1 s1 po1 => ?_
  cases b with
  | false => exact q2 C fs1 env1 σ H1 tf Q hC G1 po1
  | true => exact po1 fs1 H1 G1 .refl
theorem st_not (ha : ST X W M a ta) : ST X W M (.UnaryOp .Not a pos) (tcNot ta) := by
  obtain ⟨t, p, q⟩ := ha.go
  refine ⟨tNot t, pt_not p, fun C fs env σ H tf Q hC G po => q C fs env σ H tf _ hC G ?_⟩
  unfold tcNot at po
  cases e1 : ta env with
  | err => rw [e1] at po; exact po
  | ex x env' => rw [e1] at po; exact po
  | ok d env' => rw [e1] at po; exact po
end
end VS

set_option maxRecDepth 100000
namespace VS
open PySem L2 SeqAt

/-- a step on values, told by trees -/
def rD2 (X : Cx) (p : D → D → Option D) : L2.R2 := fun x y H Q => ∃ C dx dy fx fy d, Ctx.At C X ∧ Fr C H ∧ Rep C H dx x fx ∧ Rep C H dy y fy ∧ p dx dy = some d ∧ Comes C H d Q
def rD1 (X : Cx) (p : D → Option D) : V → Hp → VK → Prop := fun x H Q => ∃ C dx fx d, Ctx.At C X ∧ Fr C H ∧ Rep C H dx x fx ∧ p dx = some d ∧ Comes C H d Q
def rDL (X : Cx) (p : List D → Option D) : List V → Hp → VK → Prop := fun xs H Q => ∃ C dxs fx d, Ctx.At C X ∧ Fr C H ∧ Reps C H dxs xs fx ∧ p dxs = some d ∧ Comes C H d Q
theorem pr2_rd {X : Cx} {p} : Pr2 X (rD2 X p) p := ⟨fun C H x y dx dy fx fy d Q hC hF rx ry e k => ⟨C, dx, dy, fx, fy, d, hC, hF, rx, ry, e, k⟩⟩
theorem pr1_rd {X : Cx} {p} : Pr1 X (rD1 X p) p := ⟨fun C H x dx fx d Q hC hF rx e k => ⟨C, dx, fx, d, hC, hF, rx, e, k⟩⟩
theorem prL_rd {X : Cx} {p} : PrL X (rDL X p) p := ⟨fun C H xs dxs fx d Q hC hF rx e k => ⟨C, dxs, fx, d, hC, hF, rx, e, k⟩⟩
abbrev OD2 (X : Cx) (f : Value → Value → Sem Value) (p : D → D → Option D) : Prop := OpR X f (rD2 X p)
abbrev OD1 (X : Cx) (f : Value → Sem Value) (p : D → Option D) : Prop := UnR X f (rD1 X p)
abbrev ODL (X : Cx) (f : Value) (p : List D → Option D) : Prop := CallR X f (rDL X p)
theorem OD2.of {X : Cx} {f r p} (h : OpR X f r) (hp : ∀ x y H Q, rD2 X p x y H Q → r x y H Q) : OD2 X f p := fun pins s σ H x y v u Q I rx ry q => h pins s σ H x y v u Q I rx ry (hp _ _ _ _ q)
theorem OD1.of {X : Cx} {f r p} (h : UnR X f r) (hp : ∀ x H Q, rD1 X p x H Q → r x H Q) : OD1 X f p := fun pins s σ H x v Q I rx q => h pins s σ H x v Q I rx (hp _ _ _ q)
theorem ODL.of {X : Cx} {f r p} (h : CallR X f r) (hp : ∀ xs H Q, rDL X p xs H Q → r xs H Q) : ODL X f p := fun pins s σ H xs us Q I rx q => h pins s σ H xs us Q I rx (hp _ _ _ q)
def orP2 (p q : D → D → Option D) : D → D → Option D := fun x y => (p x y).or (q x y)
theorem OD2.or {X : Cx} {f p q} (h : OD2 X f p) (h' : OD2 X f q) : OD2 X f (orP2 p q) := by
  intro pins s σ H x y v u Q I rx ry ⟨C, dx, dy, fx, fy, d, hC, hF, r1, r2, e, k⟩
  unfold orP2 at e
  cases e1 : p dx dy with
  | some z =>
    rw [e1] at e
    have e2 : z = d := Option.some.inj e
    subst e2
    exact h pins s σ H x y v u Q I rx ry ⟨C, dx, dy, fx, fy, z, hC, hF, r1, r2, e1, k⟩
  | none => rw [e1] at e; exact h' pins s σ H x y v u Q I rx ry ⟨C, dx, dy, fx, fy, d, hC, hF, r1, r2, e, k⟩
theorem Comes.here {C : Ctx} {H : Hp} {d : D} {Q : VK} (k : Comes C H d Q) {v : V} (r : Rep C H d v []) : Q v H := k v H [] (Le.refl H) r .nil (fun _ z => nomatch z)

section
variable {X : Cx} {W : WX} {M M1 M2 M3 Rs R1 R2 R3 : List Nat} {e a b c : Expr} {es : List Expr} {ca cb cc : CE} {cs : CA} {pos : Pos}
theorem so_bin {op : Operator} {p : D → D → Option D} (ho : OD2 X (binaryOp op) p) (ha : SB X W M1 R1 a ca) (hb : SB X W M2 R2 b cb) (hd : djB R1 M2 = true := by decide) : SO X W (M1 ++ M2) (.BinOp a op b pos) (c2 p ca cb) := so_op ho pr2_rd ha hb hd
theorem so_cmpD {op : CmpOp} {p : D → D → Option D} (ho : OD2 X (compareOp op) p) (ha : SB X W M1 R1 a ca) (hb : SB X W M2 R2 b cb) (hm : behindInMarks op b = false := by first | exact nomark _ | rfl) (hd : djB R1 M2 = true := by decide) :
    SO X W (M1 ++ M2) (.Compare a [op] [b] pos) (c2 p ca cb) := so_cmp ho pr2_rd ha hb hm hd
theorem st_cmpD {op : CmpOp} {p : D → D → Option D} (ho : OD2 X (compareOp op) p) (ha : SB X W M1 R1 a ca) (hb : SB X W M2 R2 b cb) (hm : behindInMarks op b = false := by first | exact nomark _ | rfl) (hd : djB R1 M2 = true := by decide) :
    ST X W (M1 ++ M2) (.Compare a [op] [b] pos) (cTt (c2 p ca cb)) := st_cmp ho pr2_rd ha hb hm hd

/-! ### ints -/
def pI (c : Int → Int → Bool) (g : Int → Int → Int) : D → D → Option D
  | .int i, .int j => if c i j then some (.int (g i j)) else none
  | _, _ => none
def pIB (g : Int → Int → Bool) : D → D → Option D
  | .int i, .int j => some (.bl (g i j))
  | _, _ => none
theorem pI_inv {c g dx dy d} (h : pI c g dx dy = some d) : ∃ i j, dx = .int i ∧ dy = .int j ∧ c i j = true ∧ d = .int (g i j) := by
  unfold pI at h
  split at h
  · rename_i i j
    split at h
    · rename_i hc; cases h; exact ⟨i, j, rfl, rfl, hc, rfl⟩
    · cases h
  · cases h
theorem pIB_inv {g dx dy d} (h : pIB g dx dy = some d) : ∃ i j, dx = .int i ∧ dy = .int j ∧ d = .bl (g i j) := by
  unfold pIB at h
  split at h
  · rename_i i j; cases h; exact ⟨i, j, rfl, rfl, rfl⟩
  · cases h
theorem od_int {f : Value → Value → Sem Value} {Cc : Int → Int → Prop} {c : Int → Int → Bool} {g : Int → Int → Int} (h : OpR X f (rI Cc fun i j => .int (g i j))) (hc : ∀ i j, c i j = true → Cc i j) : OD2 X f (pI c g) := by
  refine OD2.of h fun x y H Q ⟨C, dx, dy, fx, fy, d, hC, hF, r1, r2, e, k⟩ => ?_
  obtain ⟨i, j, rfl, rfl, h1, rfl⟩ := pI_inv e
  obtain ⟨rfl, _⟩ := r1
  obtain ⟨rfl, _⟩ := r2
  exact ⟨i, j, rfl, rfl, hc i j h1, k.here ⟨rfl, rfl⟩⟩
theorem od_int0 {f : Value → Value → Sem Value} {g : Int → Int → Int} (h : OpR X f (rI0 fun i j => .int (g i j))) : OD2 X f (pI (fun _ _ => true) g) := by
  refine OD2.of h fun x y H Q ⟨C, dx, dy, fx, fy, d, hC, hF, r1, r2, e, k⟩ => ?_
  obtain ⟨i, j, rfl, rfl, h1, rfl⟩ := pI_inv e
  obtain ⟨rfl, _⟩ := r1
  obtain ⟨rfl, _⟩ := r2
  exact ⟨i, j, rfl, rfl, k.here ⟨rfl, rfl⟩⟩
theorem od_cmp {f : Value → Value → Sem Value} {g : Int → Int → Bool} (h : OpR X f (rI0 fun i j => .bl (g i j))) : OD2 X f (pIB g) := by
  refine OD2.of h fun x y H Q ⟨C, dx, dy, fx, fy, d, hC, hF, r1, r2, e, k⟩ => ?_
  obtain ⟨i, j, rfl, rfl, rfl⟩ := pIB_inv e
  obtain ⟨rfl, _⟩ := r1
  obtain ⟨rfl, _⟩ := r2
  exact ⟨i, j, rfl, rfl, k.here ⟨rfl, rfl⟩⟩
abbrev pAddI := pI (fun _ _ => true) (fun i j => i + j)
abbrev pSub := pI (fun _ _ => true) (fun i j => i - j)
abbrev pMulI := pI (fun i j => decide (-(2 ^ 64) < i ∧ i < 2 ^ 64) || decide (-(2 ^ 64) < j ∧ j < 2 ^ 64)) (fun i j => i * j)
abbrev pDiv := pI (fun _ j => decide (0 < j ∧ j < 2 ^ 64)) (fun i j => i / j)
abbrev pMod := pI (fun _ j => decide (0 < j)) (fun i j => i % j)
abbrev pPow := pI (fun i j => decide (0 ≤ j ∧ j ≤ 1000000 ∧ i.natAbs < 2 ^ 64)) (fun i j => i ^ j.toNat)
theorem od_addI : OD2 X (binaryOp .Add) pAddI := od_int0 op_add
theorem od_sub : OD2 X (binaryOp .Sub) pSub := od_int0 op_sub
theorem od_mulI : OD2 X (binaryOp .Mult) pMulI := od_int op_mul fun i j h => by
  rcases Bool.or_eq_true_iff.mp h with z | z
  · exact .inl (of_decide_eq_true z)
  · exact .inr (of_decide_eq_true z)
theorem od_div : OD2 X (binaryOp .FloorDiv) pDiv := od_int op_fdivW fun i j h => by
  obtain ⟨h1, h2⟩ := of_decide_eq_true h
  refine wide_div (b := 64) h1 ?_ (by decide) (by decide)
  omega
theorem od_mod : OD2 X (binaryOp .Mod) pMod := od_int op_mod fun i j h => of_decide_eq_true h
theorem od_pow : OD2 X (binaryOp .Pow) pPow := od_int op_pow fun i j h => by
  have z := of_decide_eq_true h
  exact z
abbrev pLtI := pIB fun i j => decide (i < j)
abbrev pLeI := pIB fun i j => decide (i ≤ j)
abbrev pGtI := pIB fun i j => decide (j < i)
abbrev pGeI := pIB fun i j => decide (j ≤ i)
theorem od_ltI : OD2 X (compareOp .Lt) pLtI := od_cmp op_lt
theorem od_leI : OD2 X (compareOp .LtE) pLeI := od_cmp op_le
theorem od_gtI : OD2 X (compareOp .Gt) pGtI := od_cmp op_gt
theorem od_geI : OD2 X (compareOp .GtE) pGeI := od_cmp op_ge
def pNeg : D → Option D
  | .int i => some (.int (-i))
  | _ => none
theorem od_neg : OD1 X (unaryOp .USub) pNeg := by
  refine OD1.of un_neg fun x H Q ⟨C, dx, fx, d, hC, hF, r1, e, k⟩ => ?_
  cases dx <;> simp [pNeg] at e
  subst e
  obtain ⟨rfl, _⟩ := r1
  exact ⟨_, rfl, k.here ⟨rfl, rfl⟩⟩
theorem so_neg (ha : SB X W M R1 a ca) : SO X W M (.UnaryOp .USub a pos) (c1 pNeg ca) := so_un od_neg pr1_rd ha

/-! ### == -/
mutual
def pyEq : D → D → Bool
  | .non, .non => true
  | .bl a, .bl b => a == b
  | .bl a, .int j => (if a then 1 else 0) == j
  | .int i, .bl b => i == (if b then 1 else 0)
  | .int i, .int j => i == j
  | .str x, .str y => x == y
  | .lst _ xs, .lst _ ys => pyEqs xs ys
  | .tup xs, .tup ys => pyEqs xs ys
  | _, _ => false
def pyEqs : List D → List D → Bool
  | [], [] => true
  | x :: xs, y :: ys => pyEq x y && pyEqs xs ys
  | _, _ => false
end
mutual
def eqOk : Nat → D → Bool
  | _, .non => true
  | _, .bl _ => true
  | _, .int _ => true
  | _, .str _ => true
  | n + 1, .lst _ ds => eqOks n ds
  | n + 1, .tup ds => eqOks n ds
  | _, _ => false
def eqOks : Nat → List D → Bool
  | _, [] => true
  | n, d :: ds => eqOk n d && eqOks n ds
end
theorem reps_length {C : Ctx} {H : Hp} : ∀ {ds : List D} {vs : List V} {fp : List Addr}, Reps C H ds vs fp → ds.length = vs.length
  | [], vs, fp, ⟨h, _⟩ => by rw [h]; rfl
  | d :: ds, vs, fp, ⟨v, vs', f1, f2, e, r, rs, _⟩ => by rw [e]; simp [reps_length rs]
theorem reps_get {C : Ctx} {H : Hp} : ∀ {ds : List D} {vs : List V} {fp : List Addr} {i : Nat} {d : D}, Reps C H ds vs fp → ds[i]? = some d → ∃ v g1 f g2, vs[i]? = some v ∧ Rep C H d v f ∧ fp = g1 ++ f ++ g2
  | [], vs, fp, i, d, _, h => by simp at h
  | d0 :: ds, vs, fp, 0, d, ⟨v, vs', f1, f2, e, r, rs, e2⟩, h => by
    simp at h; subst h; subst e; exact ⟨v, [], f1, f2, by simp, r, by simpa using e2⟩
  | d0 :: ds, vs, fp, i + 1, d, ⟨v, vs', f1, f2, e, r, rs, e2⟩, h => by
    subst e
    obtain ⟨w, g1, f, g2, h1, h2, h3⟩ := reps_get (i := i) rs (by simpa using h)
    exact ⟨w, f1 ++ g1, f, g2, by simpa using h1, h2, by rw [e2, h3]; simp [List.append_assoc]⟩
theorem pyEqs_len : ∀ {xs ys : List D}, xs.length ≠ ys.length → pyEqs xs ys = false
  | [], [], h => absurd rfl h
  | [], _ :: _, _ => by simp [pyEqs]
  | _ :: _, [], _ => by simp [pyEqs]
  | x :: xs, y :: ys, h => by rw [pyEqs, pyEqs_len (xs := xs) (ys := ys) (by simpa using h), Bool.and_false]
def pairE (xs ys : List D) (j : Nat) : Bool := match xs[j]?, ys[j]? with
  | some x, some y => pyEq x y
  | _, _ => false
theorem pyEqs_all : ∀ {xs ys : List D}, xs.length = ys.length → ((List.range xs.length).all fun j => pairE xs ys j) = pyEqs xs ys
  | [], [], _ => by simp [pyEqs]
  | x :: xs, y :: ys, h => by
    rw [List.length_cons, List.range_succ_eq_map, List.all_cons, List.all_map, pyEqs]
    have e0 : pairE (x :: xs) (y :: ys) 0 = pyEq x y := rfl
    have e1 : ((fun j => pairE (x :: xs) (y :: ys) j) ∘ Nat.succ) = fun j => pairE xs ys j := by funext j; simp [pairE]
    rw [e0, e1, pyEqs_all (xs := xs) (ys := ys) (by simpa using h)]

/-! what == asks of the machine -/
variable {pins : List (Addr × Obj)} {σ : St} {H : Hp} {s : Shared} {C : Ctx}
theorem rep_list {g ds v fp} (hC : C.At X) (hF : Fr C H) (r : Rep C H (.lst g ds) v fp) : ∃ a vs f, v = .ref a ∧ SqL X.K H a vs ∧ Reps C H ds vs f := by
  obtain ⟨a, vs, f1, f2, e, n, r, _, _⟩ := r
  exact ⟨a, vs, f2, e, by have := (Nd.rd n hF).sql; rwa [hC.1] at this, r⟩
theorem rep_tup {ds v fp} (hC : C.At X) (r : Rep C H (.tup ds) v fp) : ∃ a vs, v = .ref a ∧ SqT X.K H a vs ∧ Reps C H ds vs fp := by
  obtain ⟨a, vs, e, n, r⟩ := r
  exact ⟨a, vs, e, by rwa [hC.1] at n, r⟩
theorem ltu (I : Inv X pins σ H s) {a : Addr} {xs ys : List V} (h : SqL X.K H a xs) (h' : SqT X.K H a ys) : False := by
  obtain ⟨its, _, p, _⟩ := I.list h
  obtain ⟨its', _, p', _⟩ := I.tuple h'
  obtain ⟨o, n, e, c, _, _⟩ := p
  obtain ⟨o', e', c', _⟩ := p'
  rw [e] at e'; cases e'
  rw [c] at c'
  exact absurd c' (by decide)
mutual
theorem eq_same (I : Inv X pins σ H s) (hC : C.At X) (hF : Fr C H) : ∀ (d e : D) (n : Nat) (v : V) (f1 f2 : List Addr), eqOk n d = true → eqOk n e = true → Rep C H d v f1 → Rep C H e v f2 → pyEq d e = true
  | .non, e, n, v, f1, f2, o1, o2, r1, r2 => by
    obtain ⟨rfl, _⟩ := r1
    cases e <;> simp [Rep] at r2 <;> first | rfl | exact absurd r2.1 (by simp)
  | .bl b, e, n, v, f1, f2, o1, o2, r1, r2 => by
    obtain ⟨rfl, _⟩ := r1
    cases e <;> simp [Rep] at r2
    simp [pyEq, r2.1]
  | .int i, e, n, v, f1, f2, o1, o2, r1, r2 => by
    obtain ⟨rfl, _⟩ := r1
    cases e <;> simp [Rep] at r2
    simp [pyEq, r2.1]
  | .str i, e, n, v, f1, f2, o1, o2, r1, r2 => by
    obtain ⟨rfl, _⟩ := r1
    cases e <;> simp [Rep] at r2
    simp [pyEq, r2.1]
  | .ty i, e, n, v, f1, f2, o1, o2, r1, r2 => by simp [eqOk] at o1
  | .dct _ _ _, e, n, v, f1, f2, o1, o2, r1, r2 => by simp [eqOk] at o1
  | .obj _ _ _ _, e, n, v, f1, f2, o1, o2, r1, r2 => by simp [eqOk] at o1
  | .lst g ds, e, n, v, f1, f2, o1, o2, r1, r2 => by
    obtain ⟨a, vs, f, rfl, q, rs⟩ := rep_list hC hF r1
    cases n with
    | zero => simp [eqOk] at o1
    | succ n =>
      cases e with
      | lst g2 es =>
        obtain ⟨b, ws, f', e1, q2, rs2⟩ := rep_list hC hF r2
        cases e1
        rw [I.list_inj q2 q] at rs2
        exact eqs_same I hC hF ds es n vs f f' (by simpa [eqOk] using o1) (by simpa [eqOk] using o2) rs rs2
      | tup es =>
        obtain ⟨b, ws, e1, q2, rs2⟩ := rep_tup hC r2
        cases e1
        exact (ltu I q q2).elim
      | ty _ => simp [eqOk] at o2
      | dct _ _ _ => simp [eqOk] at o2
      | obj _ _ _ _ => simp [eqOk] at o2
      | _ => simp [Rep] at r2
  | .tup ds, e, n, v, f1, f2, o1, o2, r1, r2 => by
    obtain ⟨a, vs, rfl, q, rs⟩ := rep_tup hC r1
    cases n with
    | zero => simp [eqOk] at o1
    | succ n =>
      cases e with
      | tup es =>
        obtain ⟨b, ws, e1, q2, rs2⟩ := rep_tup hC r2
        cases e1
        rw [I.tuple_inj q2 q] at rs2
        exact eqs_same I hC hF ds es n vs f1 f2 (by simpa [eqOk] using o1) (by simpa [eqOk] using o2) rs rs2
      | lst g es =>
        obtain ⟨b, ws, f, e1, q2, rs2⟩ := rep_list hC hF r2
        cases e1
        exact (ltu I q2 q).elim
      | ty _ => simp [eqOk] at o2
      | dct _ _ _ => simp [eqOk] at o2
      | obj _ _ _ _ => simp [eqOk] at o2
      | _ => simp [Rep] at r2
theorem eqs_same (I : Inv X pins σ H s) (hC : C.At X) (hF : Fr C H) : ∀ (ds es : List D) (n : Nat) (vs : List V) (f1 f2 : List Addr), eqOks n ds = true → eqOks n es = true → Reps C H ds vs f1 → Reps C H es vs f2 → pyEqs ds es = true
  | [], es, n, vs, f1, f2, o1, o2, r1, r2 => by
    have := reps_length r1
    have h2 := reps_length r2
    cases es with
    | nil => rfl
    | cons e es => simp at this h2; omega
  | d :: ds, [], n, vs, f1, f2, o1, o2, r1, r2 => by
    have := reps_length r1
    have h2 := reps_length r2
    simp at this h2; omega
  | d :: ds, e :: es, n, vs, f1, f2, o1, o2, ⟨v, vs', g1, g2, e1, r1, rs1, _⟩, ⟨w, ws', k1, k2, e2, r2, rs2, _⟩ => by
    rw [e1] at e2; cases e2
    simp only [eqOks, Bool.and_eq_true] at o1 o2
    rw [pyEqs, eq_same I hC hF d e n v g1 k1 o1.1 o2.1 r1 r2, eqs_same I hC hF ds es n vs' g2 k2 o1.2 o2.2 rs1 rs2]; rfl
end

theorem reps_vals {ds : List D} {vs : List V} {us : List Value} {fp} (r : Reps C H ds vs fp) (rv : Vals vs us) : ds.length = us.length := (reps_length r).trans rv.length
section
open SeqAt
theorem rc_flip (I : Inv X pins σ H s) {a b : Addr} {xs ys : List V} (h : SqL X.K H a xs) (h' : SqT X.K H b ys) : a ≠ b := by
  intro e; subst e; exact ltu I h h'
mutual
theorem rc_rep (I : Inv X pins σ H s) (hC : C.At X) (hF : Fr C H) : ∀ (d e : D) (n : Nat) (A : Around) (v w : V) (f1 f2 : List Addr) (u u' : Value), eqOk n d = true → eqOk n e = true → Rep C H d v f1 → Rep C H e w f2 → RelV v u → RelV w u' → A.units + n + 1 < cLine →
    RcAt A s u u' (pyEq d e) ∧ EqAt A s u u' (pyEq d e)
  | .ty i, e, n, A, v, w, f1, f2, u, u', o1, o2, r1, r2, q1, q2, hu => by simp [eqOk] at o1
  | .dct _ _ _, e, n, A, v, w, f1, f2, u, u', o1, o2, r1, r2, q1, q2, hu => by simp [eqOk] at o1
  | .obj _ _ _ _, e, n, A, v, w, f1, f2, u, u', o1, o2, r1, r2, q1, q2, hu => by simp [eqOk] at o1
  | .non, e, n, A, v, w, f1, f2, u, u', o1, o2, r1, r2, q1, q2, hu => by
    obtain ⟨rfl, _⟩ := r1
    cases (show u = Value.none from q1)
    cases e with
    | non => obtain ⟨rfl, _⟩ := r2; cases (show u' = Value.none from q2); exact ⟨RcAt.none_none, EqAt.same _⟩
    | bl b => obtain ⟨rfl, _⟩ := r2; cases (show u' = Value.bool b from q2); exact ⟨RcAt.none_bool b, EqAt.none_bool b⟩
    | int j => obtain ⟨rfl, _⟩ := r2; obtain ⟨t, rfl⟩ := q2; exact ⟨RcAt.none_int j t, EqAt.none_int j t⟩
    | str j => obtain ⟨rfl, _⟩ := r2; obtain ⟨t, rfl⟩ := q2; exact ⟨RcAt.none_str j t, EqAt.none_str j t⟩
    | lst g es =>
      obtain ⟨a, vs, f, rfl, q, rs⟩ := rep_list hC hF r2
      cases (show u' = Value.ref a from q2)
      obtain ⟨its, _, p, _⟩ := I.list q
      exact ⟨RcAt.none_list p.isList (by omega), EqAt.none_list p.isList (by omega)⟩
    | tup es =>
      obtain ⟨a, vs, rfl, q, rs⟩ := rep_tup hC r2
      cases (show u' = Value.ref a from q2)
      obtain ⟨its, _, p, _⟩ := I.tuple q
      exact ⟨RcAt.none_tuple p (by omega), EqAt.none_tuple p (by omega)⟩
    | ty _ => simp [eqOk] at o2
    | dct _ _ _ => simp [eqOk] at o2
    | obj _ _ _ _ => simp [eqOk] at o2
  | .bl x, e, n, A, v, w, f1, f2, u, u', o1, o2, r1, r2, q1, q2, hu => by
    obtain ⟨rfl, _⟩ := r1
    cases (show u = Value.bool x from q1)
    cases e with
    | non => obtain ⟨rfl, _⟩ := r2; cases (show u' = Value.none from q2); exact ⟨RcAt.bool_none x, EqAt.bool_none x⟩
    | bl b => obtain ⟨rfl, _⟩ := r2; cases (show u' = Value.bool b from q2); exact ⟨RcAt.bool_bool x b, EqAt.bool_bool x b⟩
    | int j => obtain ⟨rfl, _⟩ := r2; obtain ⟨t, rfl⟩ := q2; exact ⟨RcAt.bool_int x j t, EqAt.bool_int x j t⟩
    | str j => obtain ⟨rfl, _⟩ := r2; obtain ⟨t, rfl⟩ := q2; exact ⟨RcAt.bool_str x j t, EqAt.bool_str x j t⟩
    | lst g es =>
      obtain ⟨a, vs, f, rfl, q, rs⟩ := rep_list hC hF r2
      cases (show u' = Value.ref a from q2)
      obtain ⟨its, _, p, _⟩ := I.list q
      exact ⟨RcAt.bool_list x p.isList (by omega), EqAt.bool_list x p.isList (by omega)⟩
    | tup es =>
      obtain ⟨a, vs, rfl, q, rs⟩ := rep_tup hC r2
      cases (show u' = Value.ref a from q2)
      obtain ⟨its, _, p, _⟩ := I.tuple q
      exact ⟨RcAt.bool_tuple x p (by omega), EqAt.bool_tuple x p (by omega)⟩
    | ty _ => simp [eqOk] at o2
    | dct _ _ _ => simp [eqOk] at o2
    | obj _ _ _ _ => simp [eqOk] at o2
  | .int x, e, n, A, v, w, f1, f2, u, u', o1, o2, r1, r2, q1, q2, hu => by
    obtain ⟨rfl, _⟩ := r1
    obtain ⟨t0, rfl⟩ := q1
    cases e with
    | non => obtain ⟨rfl, _⟩ := r2; cases (show u' = Value.none from q2); exact ⟨RcAt.int_none x t0, EqAt.int_none x t0⟩
    | bl b => obtain ⟨rfl, _⟩ := r2; cases (show u' = Value.bool b from q2); exact ⟨RcAt.int_bool x t0 b, EqAt.int_bool x t0 b⟩
    | int j => obtain ⟨rfl, _⟩ := r2; obtain ⟨t, rfl⟩ := q2; exact ⟨RcAt.int_int x t0 j t, EqAt.int_int x t0 j t⟩
    | str j => obtain ⟨rfl, _⟩ := r2; obtain ⟨t, rfl⟩ := q2; exact ⟨RcAt.int_str x t0 j t, EqAt.int_str x t0 j t⟩
    | lst g es =>
      obtain ⟨a, vs, f, rfl, q, rs⟩ := rep_list hC hF r2
      cases (show u' = Value.ref a from q2)
      obtain ⟨its, _, p, _⟩ := I.list q
      exact ⟨RcAt.int_list x t0 p.isList (by omega), EqAt.int_list x t0 p.isList (by omega)⟩
    | tup es =>
      obtain ⟨a, vs, rfl, q, rs⟩ := rep_tup hC r2
      cases (show u' = Value.ref a from q2)
      obtain ⟨its, _, p, _⟩ := I.tuple q
      exact ⟨RcAt.int_tuple x t0 p (by omega), EqAt.int_tuple x t0 p (by omega)⟩
    | ty _ => simp [eqOk] at o2
    | dct _ _ _ => simp [eqOk] at o2
    | obj _ _ _ _ => simp [eqOk] at o2
  | .str x, e, n, A, v, w, f1, f2, u, u', o1, o2, r1, r2, q1, q2, hu => by
    obtain ⟨rfl, _⟩ := r1
    obtain ⟨t0, rfl⟩ := q1
    cases e with
    | non => obtain ⟨rfl, _⟩ := r2; cases (show u' = Value.none from q2); exact ⟨RcAt.str_none x t0, EqAt.str_none x t0⟩
    | bl b => obtain ⟨rfl, _⟩ := r2; cases (show u' = Value.bool b from q2); exact ⟨RcAt.str_bool x t0 b, EqAt.str_bool x t0 b⟩
    | int j => obtain ⟨rfl, _⟩ := r2; obtain ⟨t, rfl⟩ := q2; exact ⟨RcAt.str_int x t0 j t, EqAt.str_int x t0 j t⟩
    | str j => obtain ⟨rfl, _⟩ := r2; obtain ⟨t, rfl⟩ := q2; exact ⟨RcAt.str_str x t0 j t, EqAt.str_str x t0 j t⟩
    | lst g es =>
      obtain ⟨a, vs, f, rfl, q, rs⟩ := rep_list hC hF r2
      cases (show u' = Value.ref a from q2)
      obtain ⟨its, _, p, _⟩ := I.list q
      exact ⟨RcAt.str_list x t0 p.isList (by omega), EqAt.str_list x t0 p.isList (by omega)⟩
    | tup es =>
      obtain ⟨a, vs, rfl, q, rs⟩ := rep_tup hC r2
      cases (show u' = Value.ref a from q2)
      obtain ⟨its, _, p, _⟩ := I.tuple q
      exact ⟨RcAt.str_tuple x t0 p (by omega), EqAt.str_tuple x t0 p (by omega)⟩
    | ty _ => simp [eqOk] at o2
    | dct _ _ _ => simp [eqOk] at o2
    | obj _ _ _ _ => simp [eqOk] at o2
  | .lst g ds, e, n, A, v, w, f1, f2, u, u', o1, o2, r1, r2, q1, q2, hu => by
    have r1' := r1
    have r2' := r2
    have q2' := q2
    obtain ⟨a, vs, f, rfl, q, rs⟩ := rep_list hC hF r1
    cases (show u = Value.ref a from q1)
    obtain ⟨its, rv, p, _⟩ := I.list q
    have hi := p.isList
    cases e with
    | non => obtain ⟨rfl, _⟩ := r2; cases (show u' = Value.none from q2); exact ⟨RcAt.list_none hi (by omega), EqAt.list_none hi (by omega)⟩
    | bl b => obtain ⟨rfl, _⟩ := r2; cases (show u' = Value.bool b from q2); exact ⟨RcAt.list_bool b hi (by omega), EqAt.list_bool b hi (by omega)⟩
    | int j => obtain ⟨rfl, _⟩ := r2; obtain ⟨t, rfl⟩ := q2; exact ⟨RcAt.list_int j t hi (by omega), EqAt.list_int j t hi (by omega)⟩
    | str j => obtain ⟨rfl, _⟩ := r2; obtain ⟨t, rfl⟩ := q2; exact ⟨RcAt.list_str j t hi (by omega), EqAt.list_str j t hi (by omega)⟩
    | tup es =>
      obtain ⟨b, ws, rfl, k, rs2⟩ := rep_tup hC r2
      cases (show u' = Value.ref b from q2)
      obtain ⟨its2, _, p2, _⟩ := I.tuple k
      exact ⟨RcAt.list_tuple hi p2 (by omega), EqAt.list_tuple hi p2 (by omega)⟩
    | ty _ => simp [eqOk] at o2
    | dct _ _ _ => simp [eqOk] at o2
    | obj _ _ _ _ => simp [eqOk] at o2
    | lst g2 es =>
      cases n with
      | zero => simp [eqOk] at o1
      | succ n =>
        obtain ⟨b, ws, f', rfl, k, rs2⟩ := rep_list hC hF r2
        cases (show u' = Value.ref b from q2)
        obtain ⟨its2, rv2, p2, _⟩ := I.list k
        have hi2 := p2.isList
        have n1 := reps_vals rs rv
        have n2 := reps_vals rs2 rv2
        have he := rc_reps I hC hF ds es n A.in1 vs ws f f' its its2 (by simpa [eqOk] using o1) (by simpa [eqOk] using o2) rs rs2 rv rv2 (by show A.units + 1 + n + 1 < cLine; omega)
        have rc : RcAt A s (.ref a) (.ref b) (pyEqs ds es) := by
          by_cases hsz : ds.length = es.length
          · rw [← pyEqs_all hsz, n1]
            have := RcAt.lists (A := A) (e := fun j => pairE ds es j) hi hi2 (by simp; omega) (by omega) (fun j h1 h2 => by
              have := he j (by simpa using h1) (by simpa using h2)
              simpa using this)
            simpa using this
          · rw [pyEqs_len hsz]
            exact RcAt.lists_lengths hi hi2 (by simp; omega) (by omega)
        refine ⟨rc, ?_⟩
        by_cases hab : a = b
        · subst hab
          have := eq_same I hC hF _ _ (n + 1) _ f1 f2 o1 o2 r1' r2'
          rw [this]; exact EqAt.same _
        · exact EqAt.of_refs hab rc
  | .tup ds, e, n, A, v, w, f1, f2, u, u', o1, o2, r1, r2, q1, q2, hu => by
    have r1' := r1
    have r2' := r2
    obtain ⟨a, vs, rfl, q, rs⟩ := rep_tup hC r1
    cases (show u = Value.ref a from q1)
    obtain ⟨its, rv, p, _⟩ := I.tuple q
    have hi : s.heap.IsTuple a its.toArray := p
    cases e with
    | non => obtain ⟨rfl, _⟩ := r2; cases (show u' = Value.none from q2); exact ⟨RcAt.tuple_none hi (by omega), EqAt.tuple_none hi (by omega)⟩
    | bl b => obtain ⟨rfl, _⟩ := r2; cases (show u' = Value.bool b from q2); exact ⟨RcAt.tuple_bool b hi (by omega), EqAt.tuple_bool b hi (by omega)⟩
    | int j => obtain ⟨rfl, _⟩ := r2; obtain ⟨t, rfl⟩ := q2; exact ⟨RcAt.tuple_int j t hi (by omega), EqAt.tuple_int j t hi (by omega)⟩
    | str j => obtain ⟨rfl, _⟩ := r2; obtain ⟨t, rfl⟩ := q2; exact ⟨RcAt.tuple_str j t hi (by omega), EqAt.tuple_str j t hi (by omega)⟩
    | lst g es =>
      obtain ⟨b, ws, f, rfl, k, rs2⟩ := rep_list hC hF r2
      cases (show u' = Value.ref b from q2)
      obtain ⟨its2, _, p2, _⟩ := I.list k
      exact ⟨RcAt.tuple_list hi p2.isList (by omega), EqAt.tuple_list hi p2.isList (by omega)⟩
    | ty _ => simp [eqOk] at o2
    | dct _ _ _ => simp [eqOk] at o2
    | obj _ _ _ _ => simp [eqOk] at o2
    | tup es =>
      cases n with
      | zero => simp [eqOk] at o1
      | succ n =>
        obtain ⟨b, ws, rfl, k, rs2⟩ := rep_tup hC r2
        cases (show u' = Value.ref b from q2)
        obtain ⟨its2, rv2, p2, _⟩ := I.tuple k
        have hi2 : s.heap.IsTuple b its2.toArray := p2
        have n1 := reps_vals rs rv
        have n2 := reps_vals rs2 rv2
        have he := rc_reps I hC hF ds es n A.in1 vs ws f1 f2 its its2 (by simpa [eqOk] using o1) (by simpa [eqOk] using o2) rs rs2 rv rv2 (by show A.units + 1 + n + 1 < cLine; omega)
        have rc : RcAt A s (.ref a) (.ref b) (pyEqs ds es) := by
          have z := RcAt.tuples (A := A) (e := fun j => pairE ds es j) hi hi2 (by omega) (fun j h1 h2 => by
            have := he j (by simpa using h1) (by simpa using h2)
            simpa using this)
          have e2 : ((List.range (min its.toArray.size its2.toArray.size)).all (fun j => pairE ds es j) && its.toArray.size == its2.toArray.size) = pyEqs ds es := by
            rw [List.size_toArray, List.size_toArray, ← n1, ← n2]
            by_cases hsz : ds.length = es.length
            · rw [← pyEqs_all hsz, hsz]; simp
            · rw [pyEqs_len hsz]; simp [hsz]
          rw [e2] at z; exact z
        refine ⟨rc, ?_⟩
        by_cases hab : a = b
        · subst hab
          have := eq_same I hC hF _ _ (n + 1) _ f1 f2 o1 o2 r1' r2'
          rw [this]; exact EqAt.same _
        · exact EqAt.of_refs hab rc
theorem rc_reps (I : Inv X pins σ H s) (hC : C.At X) (hF : Fr C H) : ∀ (ds es : List D) (n : Nat) (A : Around) (vs ws : List V) (f1 f2 : List Addr) (us us' : List Value), eqOks n ds = true → eqOks n es = true → Reps C H ds vs f1 → Reps C H es ws f2 → Vals vs us → Vals ws us' → A.units + n + 1 < cLine →
    ∀ j (h1 : j < us.length) (h2 : j < us'.length), EqAt A s us[j] us'[j] (pairE ds es j)
  | [], es, n, A, vs, ws, f1, f2, us, us', o1, o2, r1, r2, q1, q2, hu => fun j h1 h2 => by
    have := reps_vals r1 q1
    simp at this; omega
  | d :: ds, [], n, A, vs, ws, f1, f2, us, us', o1, o2, r1, r2, q1, q2, hu => fun j h1 h2 => by
    have := reps_vals r2 q2
    simp at this; omega
  | d :: ds, e :: es, n, A, vs, ws, f1, f2, us, us', o1, o2, ⟨v, vs', g1, g2, e1, r1, rs1, _⟩, ⟨w, ws', k1, k2, e2, r2, rs2, _⟩, q1, q2, hu => fun j h1 h2 => by
    subst e1 e2
    simp only [eqOks, Bool.and_eq_true] at o1 o2
    cases q1 with
    | cons p1 q1 =>
      cases q2 with
      | cons p2 q2 =>
        cases j with
        | zero => exact (rc_rep I hC hF d e n A v w g1 k1 _ _ o1.1 o2.1 r1 r2 p1 p2 hu).2
        | succ j =>
          have := rc_reps I hC hF ds es n A vs' ws' g2 k2 _ _ o1.2 o2.2 rs1 rs2 q1 q2 hu j (by simpa using h1) (by simpa using h2)
          simpa [pairE] using this
end
end
def pEq (d e : D) : Option D := if eqOk 40 d && eqOk 40 e then some (.bl (pyEq d e)) else none
def pNe (d e : D) : Option D := if eqOk 40 d && eqOk 40 e then some (.bl (!pyEq d e)) else none
theorem pEq_inv {d e z} (h : pEq d e = some z) : eqOk 40 d = true ∧ eqOk 40 e = true ∧ z = .bl (pyEq d e) := by
  unfold pEq at h
  split at h
  · rename_i q; cases h; have := Bool.and_eq_true_iff.mp q; exact ⟨this.1, this.2, rfl⟩
  · cases h
theorem pNe_inv {d e z} (h : pNe d e = some z) : eqOk 40 d = true ∧ eqOk 40 e = true ∧ z = .bl (!pyEq d e) := by
  unfold pNe at h
  split at h
  · rename_i q; cases h; have := Bool.and_eq_true_iff.mp q; exact ⟨this.1, this.2, rfl⟩
  · cases h
theorem od_eq {k : Nat} (hr : Room k X.A) : OD2 X (compareOp .Eq) pEq := by
  intro pins s σ H x y v u Q I rx ry ⟨C, dx, dy, fx, fy, d, hC, hF, r1, r2, e, kk⟩
  obtain ⟨o1, o2, rfl⟩ := pEq_inv e
  have := (rc_rep I hC hF dx dy 40 X.A x y fx fy v u o1 o2 r1 r2 rx ry (by have := hr.units; omega)).1
  exact this X.prog X.w X.xe _ ⟨.bl _, H, I, rfl, kk.here ⟨rfl, rfl⟩⟩
end
end VS

set_option maxRecDepth 100000
namespace VS
open PySem L2 SeqAt
section
variable {X : Cx} {W : WX} {M M1 M2 M3 Rs R1 R2 R3 : List Nat} {e a b c : Expr} {es : List Expr} {ca cb cc : CE} {cs : CA} {pos : Pos}
variable {pins : List (Addr × Obj)} {σ : St} {H : Hp} {s : Shared} {C : Ctx}
theorem rcne_rep (I : Inv X pins σ H s) (hC : C.At X) (hF : Fr C H) : ∀ (d e : D) (n : Nat) (A : Around) (v w : V) (f1 f2 : List Addr) (u u' : Value), eqOk n d = true → eqOk n e = true → Rep C H d v f1 → Rep C H e w f2 → RelV v u → RelV w u' → A.units + n + 1 < cLine →
    RcNeAt A s u u' (!pyEq d e)
  | .ty i, e, n, A, v, w, f1, f2, u, u', o1, o2, r1, r2, q1, q2, hu => by simp [eqOk] at o1
  | .dct _ _ _, e, n, A, v, w, f1, f2, u, u', o1, o2, r1, r2, q1, q2, hu => by simp [eqOk] at o1
  | .obj _ _ _ _, e, n, A, v, w, f1, f2, u, u', o1, o2, r1, r2, q1, q2, hu => by simp [eqOk] at o1
  | .non, e, n, A, v, w, f1, f2, u, u', o1, o2, r1, r2, q1, q2, hu => by
    obtain ⟨rfl, _⟩ := r1
    cases (show u = Value.none from q1)
    cases e with
    | non => obtain ⟨rfl, _⟩ := r2; cases (show u' = Value.none from q2); exact RcNeAt.none_none
    | bl b => obtain ⟨rfl, _⟩ := r2; cases (show u' = Value.bool b from q2); exact RcNeAt.none_bool b
    | int j => obtain ⟨rfl, _⟩ := r2; obtain ⟨t, rfl⟩ := q2; exact RcNeAt.none_int j t
    | str j => obtain ⟨rfl, _⟩ := r2; obtain ⟨t, rfl⟩ := q2; exact RcNeAt.none_str j t
    | lst g es =>
      obtain ⟨a, vs, f, rfl, q, rs⟩ := rep_list hC hF r2
      cases (show u' = Value.ref a from q2)
      obtain ⟨its, _, p, _⟩ := I.list q
      exact RcNeAt.none_list p.isList (by omega)
    | tup es =>
      obtain ⟨a, vs, rfl, q, rs⟩ := rep_tup hC r2
      cases (show u' = Value.ref a from q2)
      obtain ⟨its, _, p, _⟩ := I.tuple q
      exact RcNeAt.none_tuple p (by omega)
    | ty _ => simp [eqOk] at o2
    | dct _ _ _ => simp [eqOk] at o2
    | obj _ _ _ _ => simp [eqOk] at o2
  | .bl x, e, n, A, v, w, f1, f2, u, u', o1, o2, r1, r2, q1, q2, hu => by
    obtain ⟨rfl, _⟩ := r1
    cases (show u = Value.bool x from q1)
    cases e with
    | non => obtain ⟨rfl, _⟩ := r2; cases (show u' = Value.none from q2); exact RcNeAt.bool_none x
    | bl b => obtain ⟨rfl, _⟩ := r2; cases (show u' = Value.bool b from q2); exact RcNeAt.bool_bool x b
    | int j => obtain ⟨rfl, _⟩ := r2; obtain ⟨t, rfl⟩ := q2; exact RcNeAt.bool_int x j t
    | str j => obtain ⟨rfl, _⟩ := r2; obtain ⟨t, rfl⟩ := q2; exact RcNeAt.bool_str x j t
    | lst g es =>
      obtain ⟨a, vs, f, rfl, q, rs⟩ := rep_list hC hF r2
      cases (show u' = Value.ref a from q2)
      obtain ⟨its, _, p, _⟩ := I.list q
      exact RcNeAt.bool_list x p.isList (by omega)
    | tup es =>
      obtain ⟨a, vs, rfl, q, rs⟩ := rep_tup hC r2
      cases (show u' = Value.ref a from q2)
      obtain ⟨its, _, p, _⟩ := I.tuple q
      exact RcNeAt.bool_tuple x p (by omega)
    | ty _ => simp [eqOk] at o2
    | dct _ _ _ => simp [eqOk] at o2
    | obj _ _ _ _ => simp [eqOk] at o2
  | .int x, e, n, A, v, w, f1, f2, u, u', o1, o2, r1, r2, q1, q2, hu => by
    obtain ⟨rfl, _⟩ := r1
    obtain ⟨t0, rfl⟩ := q1
    cases e with
    | non => obtain ⟨rfl, _⟩ := r2; cases (show u' = Value.none from q2); exact RcNeAt.int_none x t0
    | bl b => obtain ⟨rfl, _⟩ := r2; cases (show u' = Value.bool b from q2); exact RcNeAt.int_bool x t0 b
    | int j => obtain ⟨rfl, _⟩ := r2; obtain ⟨t, rfl⟩ := q2; exact RcNeAt.int_int x t0 j t
    | str j => obtain ⟨rfl, _⟩ := r2; obtain ⟨t, rfl⟩ := q2; exact RcNeAt.int_str x t0 j t
    | lst g es =>
      obtain ⟨a, vs, f, rfl, q, rs⟩ := rep_list hC hF r2
      cases (show u' = Value.ref a from q2)
      obtain ⟨its, _, p, _⟩ := I.list q
      exact RcNeAt.int_list x t0 p.isList (by omega)
    | tup es =>
      obtain ⟨a, vs, rfl, q, rs⟩ := rep_tup hC r2
      cases (show u' = Value.ref a from q2)
      obtain ⟨its, _, p, _⟩ := I.tuple q
      exact RcNeAt.int_tuple x t0 p (by omega)
    | ty _ => simp [eqOk] at o2
    | dct _ _ _ => simp [eqOk] at o2
    | obj _ _ _ _ => simp [eqOk] at o2
  | .str x, e, n, A, v, w, f1, f2, u, u', o1, o2, r1, r2, q1, q2, hu => by
    obtain ⟨rfl, _⟩ := r1
    obtain ⟨t0, rfl⟩ := q1
    cases e with
    | non => obtain ⟨rfl, _⟩ := r2; cases (show u' = Value.none from q2); exact RcNeAt.str_none x t0
    | bl b => obtain ⟨rfl, _⟩ := r2; cases (show u' = Value.bool b from q2); exact RcNeAt.str_bool x t0 b
    | int j => obtain ⟨rfl, _⟩ := r2; obtain ⟨t, rfl⟩ := q2; exact RcNeAt.str_int x t0 j t
    | str j => obtain ⟨rfl, _⟩ := r2; obtain ⟨t, rfl⟩ := q2; exact RcNeAt.str_str x t0 j t
    | lst g es =>
      obtain ⟨a, vs, f, rfl, q, rs⟩ := rep_list hC hF r2
      cases (show u' = Value.ref a from q2)
      obtain ⟨its, _, p, _⟩ := I.list q
      exact RcNeAt.str_list x t0 p.isList (by omega)
    | tup es =>
      obtain ⟨a, vs, rfl, q, rs⟩ := rep_tup hC r2
      cases (show u' = Value.ref a from q2)
      obtain ⟨its, _, p, _⟩ := I.tuple q
      exact RcNeAt.str_tuple x t0 p (by omega)
    | ty _ => simp [eqOk] at o2
    | dct _ _ _ => simp [eqOk] at o2
    | obj _ _ _ _ => simp [eqOk] at o2
  | .lst g ds, e, n, A, v, w, f1, f2, u, u', o1, o2, r1, r2, q1, q2, hu => by
    have r1' := r1
    have r2' := r2
    have q2' := q2
    obtain ⟨a, vs, f, rfl, q, rs⟩ := rep_list hC hF r1
    cases (show u = Value.ref a from q1)
    obtain ⟨its, rv, p, _⟩ := I.list q
    have hi := p.isList
    cases e with
    | non => obtain ⟨rfl, _⟩ := r2; cases (show u' = Value.none from q2); exact RcNeAt.list_none hi (by omega)
    | bl b => obtain ⟨rfl, _⟩ := r2; cases (show u' = Value.bool b from q2); exact RcNeAt.list_bool b hi (by omega)
    | int j => obtain ⟨rfl, _⟩ := r2; obtain ⟨t, rfl⟩ := q2; exact RcNeAt.list_int j t hi (by omega)
    | str j => obtain ⟨rfl, _⟩ := r2; obtain ⟨t, rfl⟩ := q2; exact RcNeAt.list_str j t hi (by omega)
    | tup es =>
      obtain ⟨b, ws, rfl, k, rs2⟩ := rep_tup hC r2
      cases (show u' = Value.ref b from q2)
      obtain ⟨its2, _, p2, _⟩ := I.tuple k
      exact RcNeAt.list_tuple hi p2 (by omega)
    | ty _ => simp [eqOk] at o2
    | dct _ _ _ => simp [eqOk] at o2
    | obj _ _ _ _ => simp [eqOk] at o2
    | lst g2 es =>
      cases n with
      | zero => simp [eqOk] at o1
      | succ n =>
        obtain ⟨b, ws, f', rfl, k, rs2⟩ := rep_list hC hF r2
        cases (show u' = Value.ref b from q2)
        obtain ⟨its2, rv2, p2, _⟩ := I.list k
        have hi2 := p2.isList
        have n1 := reps_vals rs rv
        have n2 := reps_vals rs2 rv2
        have he := rc_reps I hC hF ds es n A.in1 vs ws f f' its its2 (by simpa [eqOk] using o1) (by simpa [eqOk] using o2) rs rs2 rv rv2 (by show A.units + 1 + n + 1 < cLine; omega)
        show RcNeAt A s (.ref a) (.ref b) (!pyEqs ds es)
        by_cases hsz : ds.length = es.length
        · rw [← pyEqs_all hsz, n1]
          have := RcNeAt.lists (A := A) (e := fun j => pairE ds es j) hi hi2 (by simp; omega) (by omega) (fun j h1 h2 => by
            have := he j (by simpa using h1) (by simpa using h2)
            simpa using this)
          simpa using this
        · rw [pyEqs_len hsz]
          exact RcNeAt.lists_lengths hi hi2 (by simp; omega) (by omega)
  | .tup ds, e, n, A, v, w, f1, f2, u, u', o1, o2, r1, r2, q1, q2, hu => by
    have r1' := r1
    have r2' := r2
    obtain ⟨a, vs, rfl, q, rs⟩ := rep_tup hC r1
    cases (show u = Value.ref a from q1)
    obtain ⟨its, rv, p, _⟩ := I.tuple q
    have hi : s.heap.IsTuple a its.toArray := p
    cases e with
    | non => obtain ⟨rfl, _⟩ := r2; cases (show u' = Value.none from q2); exact RcNeAt.tuple_none hi (by omega)
    | bl b => obtain ⟨rfl, _⟩ := r2; cases (show u' = Value.bool b from q2); exact RcNeAt.tuple_bool b hi (by omega)
    | int j => obtain ⟨rfl, _⟩ := r2; obtain ⟨t, rfl⟩ := q2; exact RcNeAt.tuple_int j t hi (by omega)
    | str j => obtain ⟨rfl, _⟩ := r2; obtain ⟨t, rfl⟩ := q2; exact RcNeAt.tuple_str j t hi (by omega)
    | lst g es =>
      obtain ⟨b, ws, f, rfl, k, rs2⟩ := rep_list hC hF r2
      cases (show u' = Value.ref b from q2)
      obtain ⟨its2, _, p2, _⟩ := I.list k
      exact RcNeAt.tuple_list hi p2.isList (by omega)
    | ty _ => simp [eqOk] at o2
    | dct _ _ _ => simp [eqOk] at o2
    | obj _ _ _ _ => simp [eqOk] at o2
    | tup es =>
      cases n with
      | zero => simp [eqOk] at o1
      | succ n =>
        obtain ⟨b, ws, rfl, k, rs2⟩ := rep_tup hC r2
        cases (show u' = Value.ref b from q2)
        obtain ⟨its2, rv2, p2, _⟩ := I.tuple k
        have hi2 : s.heap.IsTuple b its2.toArray := p2
        have n1 := reps_vals rs rv
        have n2 := reps_vals rs2 rv2
        have he := rc_reps I hC hF ds es n A.in1 vs ws f1 f2 its its2 (by simpa [eqOk] using o1) (by simpa [eqOk] using o2) rs rs2 rv rv2 (by show A.units + 1 + n + 1 < cLine; omega)
        show RcNeAt A s (.ref a) (.ref b) (!pyEqs ds es)
        have z := RcNeAt.tuples (A := A) (e := fun j => pairE ds es j) hi hi2 (by omega) (fun j h1 h2 => by
          have := he j (by simpa using h1) (by simpa using h2)
          simpa using this)
        have e2 : ((List.range (min its.toArray.size its2.toArray.size)).all (fun j => pairE ds es j) && its.toArray.size == its2.toArray.size) = pyEqs ds es := by
          rw [List.size_toArray, List.size_toArray, ← n1, ← n2]
          by_cases hsz : ds.length = es.length
          · rw [← pyEqs_all hsz, hsz]; simp
          · rw [pyEqs_len hsz]; simp [hsz]
        rw [e2] at z; exact z

theorem od_ne {k : Nat} (hr : Room k X.A) : OD2 X (compareOp .NotEq) pNe := by
  intro pins s σ H x y v u Q I rx ry ⟨C, dx, dy, fx, fy, d, hC, hF, r1, r2, e, kk⟩
  obtain ⟨o1, o2, rfl⟩ := pNe_inv e
  have := rcne_rep I hC hF dx dy 40 X.A x y fx fy v u o1 o2 r1 r2 rx ry (by have := hr.units; omega)
  exact this X.prog X.w X.xe _ ⟨.bl _, H, I, rfl, kk.here ⟨rfl, rfl⟩⟩

/-! ### is -/
def pIs : D → D → Option D
  | .non, .non => some (.bl true)
  | .bl a, .bl b => some (.bl (decide (a = b)))
  | .tup _, .non => some (.bl false)
  | .lst _ _, .non => some (.bl false)
  | .dct _ _ _, .non => some (.bl false)
  | .obj _ _ _ _, .non => some (.bl false)
  | .int _, .non => some (.bl false)
  | .str _, .non => some (.bl false)
  | .bl _, .non => some (.bl false)
  | _, _ => none
def pIsNot (d e : D) : Option D := match pIs d e with
  | some (.bl b) => some (.bl (!b))
  | _ => none
def rIs (neg : Bool) : L2.R2 := fun x y H Q => (y = .non ∧ Q (.bl (if neg then !decide (x = .non) else decide (x = .non))) H) ∨ ∃ a b, x = .bl a ∧ y = .bl b ∧ Q (.bl (if neg then !decide (a = b) else decide (a = b))) H
theorem op_is2 : OpR X (compareOp .Is) (rIs false) := OpR.or op_isN (by
  intro pins s σ H x y v u Q I rx ry ⟨a, b, e1, e2, q⟩
  exact op_is_bl pins s σ H x y v u Q I rx ry ⟨a, b, e1, e2, q⟩)
theorem op_isnot2 : OpR X (compareOp .IsNot) (rIs true) := OpR.or op_notN (by
  intro pins s σ H x y v u Q I rx ry ⟨a, b, e1, e2, q⟩
  exact op_isnot_bl pins s σ H x y v u Q I rx ry ⟨a, b, e1, e2, q⟩)
theorem pIs_cases {C : Ctx} {H : Hp} {dx dy d : D} {x y : V} {fx fy} (e : pIs dx dy = some d) (r1 : Rep C H dx x fx) (r2 : Rep C H dy y fy) :
    ∃ k, d = .bl k ∧ ((y = .non ∧ k = decide (x = .non)) ∨ ∃ a b, x = .bl a ∧ y = .bl b ∧ k = decide (a = b)) := by
  cases dx <;> cases dy <;> simp [pIs] at e <;> subst e
  case non.non => obtain ⟨rfl, _⟩ := r1; obtain ⟨rfl, _⟩ := r2; exact ⟨_, rfl, .inl ⟨rfl, by simp⟩⟩
  case bl.bl a b => obtain ⟨rfl, _⟩ := r1; obtain ⟨rfl, _⟩ := r2; exact ⟨_, rfl, .inr ⟨a, b, rfl, rfl, by first | rfl | simp⟩⟩
  case bl.non => obtain ⟨rfl, _⟩ := r1; obtain ⟨rfl, _⟩ := r2; exact ⟨_, rfl, .inl ⟨rfl, by simp⟩⟩
  case int.non => obtain ⟨rfl, _⟩ := r1; obtain ⟨rfl, _⟩ := r2; exact ⟨_, rfl, .inl ⟨rfl, by simp⟩⟩
  case str.non => obtain ⟨rfl, _⟩ := r1; obtain ⟨rfl, _⟩ := r2; exact ⟨_, rfl, .inl ⟨rfl, by simp⟩⟩
  case tup.non => obtain ⟨a, vs, rfl, _⟩ := r1; obtain ⟨rfl, _⟩ := r2; exact ⟨_, rfl, .inl ⟨rfl, by simp⟩⟩
  case lst.non => obtain ⟨a, vs, f1, f2, rfl, _⟩ := r1; obtain ⟨rfl, _⟩ := r2; exact ⟨_, rfl, .inl ⟨rfl, by simp⟩⟩
  case dct.non => obtain ⟨a, vs, f1, f2, rfl, _⟩ := r1; obtain ⟨rfl, _⟩ := r2; exact ⟨_, rfl, .inl ⟨rfl, by simp⟩⟩
  case obj.non => obtain ⟨a, _, _, _, _, _, rfl, _⟩ := r1; obtain ⟨rfl, _⟩ := r2; exact ⟨_, rfl, .inl ⟨rfl, by simp⟩⟩
theorem od_is : OD2 X (compareOp .Is) pIs := by
  refine OD2.of op_is2 fun x y H Q ⟨C, dx, dy, fx, fy, d, hC, hF, r1, r2, e, k⟩ => ?_
  obtain ⟨b, rfl, ⟨h1, h2⟩ | ⟨a, a', h1, h2, h3⟩⟩ := pIs_cases e r1 r2
  · refine .inl ⟨h1, ?_⟩
    rw [if_neg (by simp), ← h2]
    exact k.here ⟨rfl, rfl⟩
  · refine .inr ⟨a, a', h1, h2, ?_⟩
    rw [if_neg (by simp), ← h3]
    exact k.here ⟨rfl, rfl⟩
theorem od_isnot : OD2 X (compareOp .IsNot) pIsNot := by
  refine OD2.of op_isnot2 fun x y H Q ⟨C, dx, dy, fx, fy, d, hC, hF, r1, r2, e, k⟩ => ?_
  unfold pIsNot at e
  cases e1 : pIs dx dy with
  | none => rw [e1] at e; cases e
  | some z =>
    obtain ⟨b, rfl, ⟨h1, h2⟩ | ⟨a, a', h1, h2, h3⟩⟩ := pIs_cases e1 r1 r2
    · rw [e1] at e; cases e
      refine .inl ⟨h1, ?_⟩
      rw [if_pos rfl, ← h2]
      exact k.here ⟨rfl, rfl⟩
    · rw [e1] at e; cases e
      refine .inr ⟨a, a', h1, h2, ?_⟩
      rw [if_pos rfl, ← h3]
      exact k.here ⟨rfl, rfl⟩

/-! ### chains of two comparisons: the middle one an int name or number -/
def cChain (p q : D → D → Option D) (ca cb cc : CE) : CE := fun env => (cTwo ca cb env).bind fun xy env => match p xy.1 xy.2 with
  | some (.bl true) => (cc env).bind fun z env => R.of (q xy.2 z) env
  | some (.bl false) => .ok (.bl false) env
  | _ => .err
theorem chain_go {op op' : CmpOp} {p q : D → D → Option D} (ho : OD2 X (compareOp op) p) (ho' : OD2 X (compareOp op') q) (ha : SB X W M1 R1 a ca) (hb : SB X W M2 R2 b cb) (hc : SB X W M3 R3 c cc)
    (hd : djB R1 M2 = true) (hd2 : djB R2 M3 = true) :
    ∃ ta tb tc, PE X a ta ∧ PE X b tb ∧ PE X c tc ∧ ∀ C fs env σ H tf Q, C.At X → Good C fs env σ H tf → PostO W C (M1 ++ M2 ++ M3) tf fs env σ H Q (cChain p q ca cb cc env) → tChain (rD2 X p) (rD2 X q) ta tb tc σ H Q := by
  obtain ⟨ta, tb, pa, pb, h2⟩ := two_go ha hb hd
  obtain ⟨tc, pc, h3⟩ := hc.go
  refine ⟨ta, tb, tc, pa, pb, pc, fun C fs env σ H tf Q hC G po => ?_⟩
  show ta σ H fun x H1 => tb σ H1 fun y H2 => _
  refine h2 C fs env σ H tf _ hC G ?_
  unfold cChain at po
  cases e1 : cTwo ca cb env with
  | err => rw [e1] at po; exact po
  | ex x env' => rw [e1] at po; exact fun cv dd fs' H' G' s => po cv dd fs' H' G' (s.weak (fun i hi => List.mem_append_left _ hi) fun _ z => z)
  | ok xy env1 =>
    rw [e1] at po
    intro x y fs1 H1 f1 f2 own G1 s1 r1 r2 i1 i2
    have po' : PostO W C (M1 ++ M2 ++ M3) tf fs env σ H Q (match p xy.1 xy.2 with
      | some (.bl true) => (cc env1).bind fun z env => R.of (q xy.2 z) env
      | some (.bl false) => .ok (.bl false) env1
      | _ => .err) := po
    cases e2 : p xy.1 xy.2 with
    | none => rw [e2] at po'; exact po'.elim
    | some z =>
      cases z with
      | bl k =>
        cases k with
        | false =>
          rw [e2] at po'
          refine ⟨C, xy.1, xy.2, f1, f2, .bl false, hC, G1.fr, r1, r2, e2, fun v H2 fp le rv nd nw => ?_⟩
          obtain ⟨rfl, hf⟩ := rv
          refine ⟨false, rfl, ?_⟩
          rw [if_neg Bool.false_ne_true]
          refine po' (.bl false) fs1 H2 [] (by simpa using G1.drop.le' le) ?_ ⟨rfl, rfl⟩
          have := (s1.trans (Step.grow (M := []) G1.drop le)).weak (M' := M1 ++ M2 ++ M3) (fun i hi => by simp at hi; simp [hi]; rcases hi with h | h <;> simp [h]) fun _ z => z
          exact this
        | true =>
          rw [e2] at po'
          refine ⟨C, xy.1, xy.2, f1, f2, .bl true, hC, G1.fr, r1, r2, e2, fun v H2 fp le rv nd nw => ?_⟩
          obtain ⟨rfl, hf⟩ := rv
          refine ⟨true, rfl, ?_⟩
          rw [if_pos rfl]
          have G2 := G1.le' le
          have s2 := s1.trans (Step.grow (M := []) G1.drop le)
          refine h3 C fs1 env1 σ H2 (own ++ tf) _ hC G2 ?_
          have po2 : PostO W C (M1 ++ M2 ++ M3) tf fs env σ H Q ((cc env1).bind fun z env => R.of (q xy.2 z) env) := po'
          have wk : ∀ {fs' env' H'}, Step M3 (own ++ tf) fs1 env1 H2 fs' env' H' → Step (M1 ++ M2 ++ M3) tf fs env H fs' env' H' := fun {fs' env' H'} s => by
            have := s2.trans (s.weak (fun _ z => z) fun x hx => List.mem_append_right _ hx)
            refine this.weak (fun i hi => ?_) fun _ z => z
            simpa using hi
          cases e3 : cc env1 with
          | err => rw [e3] at po2; exact po2
          | ex x env' => rw [e3] at po2; exact fun cv dd fs' H' G' s => po2 cv dd fs' H' G'.drop (wk s)
          | ok z env2 =>
            rw [e3] at po2
            intro zv fs3 H3 f3 own3 G3 s3 r3 i3
            have po3 : PostO W C (M1 ++ M2 ++ M3) tf fs env σ H Q (R.of (q xy.2 z) env2) := po2
            cases e4 : q xy.2 z with
            | none => rw [e4] at po3; exact po3.elim
            | some zz =>
              rw [e4] at po3
              have G3' : Good C fs3 env2 σ H3 ((own3 ++ own) ++ tf) := by rw [List.append_assoc]; exact G3
              have k2 := i2.keep s3 (djB_ok hd2)
              have r2' : Rep C H3 xy.2 y f2 := (r2.le le).keep k2 s3.m
              exact ⟨C, xy.2, z, f2, f3, zz, hC, G3.fr, r2', r3, e4, comes_post G3' (wk s3) po3⟩
      | _ => rw [e2] at po'; exact po'.elim
theorem so_chain {op op' : CmpOp} {p q : D → D → Option D} (ho : OD2 X (compareOp op) p) (ho' : OD2 X (compareOp op') q) (ha : SB X W M1 R1 a ca) (hb : SB X W M2 R2 b cb) (hc : SB X W M3 R3 c cc)
    (hd : djB R1 M2 = true := by decide) (hd2 : djB R2 M3 = true := by decide) (hm : lastMarks [op, op'] [b, c] = false := by with_unfolding_all rfl) : SO X W (M1 ++ M2 ++ M3) (.Compare a [op, op'] [b, c] pos) (cChain p q ca cb cc) := by
  obtain ⟨ta, tb, tc, pa, pb, pc, h⟩ := chain_go ho ho' ha hb hc hd hd2
  exact ⟨_, pe_chain ho ho' pa pb pc hm, h⟩
theorem st_chain {op op' : CmpOp} {p q : D → D → Option D} (ho : OD2 X (compareOp op) p) (ho' : OD2 X (compareOp op') q) (ha : SB X W M1 R1 a ca) (hb : SB X W M2 R2 b cb) (hc : SB X W M3 R3 c cc)
    (hd : djB R1 M2 = true := by decide) (hd2 : djB R2 M3 = true := by decide) (hm : lastMarks [op, op'] [b, c] = false := by with_unfolding_all rfl) : ST X W (M1 ++ M2 ++ M3) (.Compare a [op, op'] [b, c] pos) (cTt (cChain p q ca cb cc)) := by
  obtain ⟨ta, tb, tc, pa, pb, pc, h⟩ := chain_go ho ho' ha hb hc hd hd2
  exact st_tt (Rs := []) (t := tChain (rD2 X p) (rD2 X q) ta tb tc) (pt_chain ho ho' pa pb pc hm) fun C fs env σ H tf Q hC G po => h C fs env σ H tf Q hC G (post_ob po)

/-! ### and, or, not as values; a if t else b -/
def cAnd (ca cb : CE) : CE := fun env => (ca env).bind fun d env => match d with
  | .bl true => cb env
  | .bl false => .ok (.bl false) env
  | _ => .err
def cOr (ca cb : CE) : CE := fun env => (ca env).bind fun d env => match d with
  | .bl true => .ok (.bl true) env
  | .bl false => cb env
  | _ => .err
def cNot (ca : CE) : CE := fun env => (ca env).bind fun d env => match d with
  | .bl b => .ok (.bl (!b)) env
  | _ => .err
/-- one owned thing, then another step -/
theorem seqO {fs : FPs} {env : Env} {H : Hp} {tf : List Addr} {Q : VK} {f : D → CE} {t : TE} (hC : C.At X) (G : Good C fs env σ H tf)
    (ht : ∀ C fs env σ H tf Q, C.At X → Good C fs env σ H tf → PostB W C M1 R1 tf fs env σ H Q (ca env) → t σ H Q)
    (po : PostO W C (M1 ++ M2) tf fs env σ H Q ((ca env).bind f)) {K : VK}
    (hK : ∀ d v fs1 env1 H1 fp own, Good C fs1 env1 σ H1 (own ++ tf) → Step M1 tf fs env H fs1 env1 H1 → Rep C H1 d v fp → In R1 own fs1 fp → PostO W C (M1 ++ M2) tf fs env σ H Q (f d env1) → K v H1) : t σ H K := by
  refine ht C fs env σ H tf _ hC G ?_
  cases e1 : ca env with
  | err => rw [e1] at po; exact po
  | ex x env' =>
    rw [e1] at po
    exact fun cv dd fs' H' G' s => po cv dd fs' H' G' (s.weak (fun i hi => List.mem_append_left _ hi) fun _ z => z)
  | ok d env1 =>
    rw [e1] at po
    exact fun v fs1 H1 fp own G1 s1 r1 i1 => hK d v fs1 env1 H1 fp own G1 s1 r1 i1 po
theorem PostO.step {fs fs1 : FPs} {env env1 : Env} {H H1 : Hp} {tf : List Addr} {Q : VK} {z : R D} (s1 : Step M1 tf fs env H fs1 env1 H1) (po : PostO W C (M1 ++ M2) tf fs env σ H Q z) : PostO W C M2 tf fs1 env1 σ H1 Q z := by
  cases z with
  | err => exact po
  | ex x env' => exact fun cv dd fs' H' G' s => po cv dd fs' H' G' (s1.trans s)
  | ok d env' => exact fun v fs' H' fp G' s r => po v fs' H' fp G' (s1.trans s) r
theorem PostO.done {fs fs1 : FPs} {env env1 : Env} {H H1 : Hp} {tf : List Addr} {Q : VK} {d : D} {v : V} (s1 : Step M1 tf fs env H fs1 env1 H1) (po : PostO W C (M1 ++ M2) tf fs env σ H Q (.ok d env1)) (G1 : Good C fs1 env1 σ H1 tf) (r : Rep C H1 d v []) : Q v H1 :=
  po v fs1 H1 [] (by simpa using G1) (s1.weak (fun i hi => List.mem_append_left _ hi) fun _ z => z) r
theorem so_and (ha : SB X W M1 R1 a ca) (hb : SO X W M2 (.BoolOp .And (b :: es) pos) cb) : SO X W (M1 ++ M2) (.BoolOp .And (a :: b :: es) pos) (cAnd ca cb) := by
  obtain ⟨t, p, q⟩ := ha.go
  obtain ⟨t2, p2, q2⟩ := hb.go
  refine ⟨tAndV t t2, pe_and p p2, fun C fs env σ H tf Q hC G po => ?_⟩
  refine seqO (M1 := M1) (M2 := M2) (R1 := R1) (ca := ca) hC G q po fun d v fs1 env1 H1 fp own G1 s1 r1 i1 po1 => ?_
  cases d with
  | bl k =>
    obtain ⟨rfl, _⟩ := r1
    refine ⟨k, rfl, ?_⟩
    cases k with
    | true => exact q2 C fs1 env1 σ H1 tf Q hC G1.drop (po1.step s1)
    | false => exact po1.done s1 G1.drop ⟨rfl, rfl⟩
  | _ => exact po1.elim
theorem so_or (ha : SB X W M1 R1 a ca) (hb : SO X W M2 (.BoolOp .Or (b :: es) pos) cb) : SO X W (M1 ++ M2) (.BoolOp .Or (a :: b :: es) pos) (cOr ca cb) := by
  obtain ⟨t, p, q⟩ := ha.go
  obtain ⟨t2, p2, q2⟩ := hb.go
  refine ⟨tOrV t t2, pe_or p p2, fun C fs env σ H tf Q hC G po => ?_⟩
  refine seqO (M1 := M1) (M2 := M2) (R1 := R1) (ca := ca) hC G q po fun d v fs1 env1 H1 fp own G1 s1 r1 i1 po1 => ?_
  cases d with
  | bl k =>
    obtain ⟨rfl, _⟩ := r1
    refine ⟨k, rfl, ?_⟩
    cases k with
    | false => exact q2 C fs1 env1 σ H1 tf Q hC G1.drop (po1.step s1)
    | true => exact po1.done s1 G1.drop ⟨rfl, rfl⟩
  | _ => exact po1.elim
theorem so_one {op} (ha : SO X W M1 a ca) : SO X W M1 (.BoolOp op [a] pos) ca := by
  obtain ⟨t, p, q⟩ := ha.go
  exact ⟨t, pe_one p, q⟩
theorem so_not (ha : SB X W M1 R1 a ca) : SO X W M1 (.UnaryOp .Not a pos) (cNot ca) := by
  obtain ⟨t, p, q⟩ := ha.go
  refine ⟨tNotV t, pe_not p, fun C fs env σ H tf Q hC G po => ?_⟩
  refine seqO (M1 := M1) (M2 := []) (R1 := R1) (ca := ca) hC G q (by rw [List.append_nil]; exact po) fun d v fs1 env1 H1 fp own G1 s1 r1 i1 po1 => ?_
  cases d with
  | bl k =>
    obtain ⟨rfl, _⟩ := r1
    exact ⟨k, rfl, po1.done s1 G1.drop ⟨rfl, rfl⟩⟩
  | _ => exact po1.elim
def cIf (ct : CT) (ca cb : CE) : CE := fun env => (ct env).bind fun k env => if k = true then ca env else cb env
variable {ct : CT}
theorem so_ifE (hc : ST X W M1 c ct) (ha : SO X W M2 a ca) (hb : SO X W M3 b cb) : SO X W (M1 ++ (M2 ++ M3)) (.IfExp c a b pos) (cIf ct ca cb) := by
  obtain ⟨t, p, q⟩ := hc.go
  obtain ⟨t2, p2, q2⟩ := ha.go
  obtain ⟨t3, p3, q3⟩ := hb.go
  refine ⟨tIf t t2 t3, pe_ifExp p p2 p3, fun C fs env σ H tf Q hC G po => q C fs env σ H tf _ hC G ?_⟩
  unfold cIf at po
  cases e1 : ct env with
  | err => rw [e1] at po; exact po
  | ex x env' => rw [e1] at po; exact fun cv dd fs' H' G' s => po cv dd fs' H' G' (s.weak (fun i hi => List.mem_append_left _ hi) fun _ z => z)
  | ok k env1 =>
    rw [e1] at po
    intro fs1 H1 G1 s1
    have po1 : PostO W C (M1 ++ (M2 ++ M3)) tf fs env σ H Q (if k = true then ca env1 else cb env1) := po
    cases k with
    | true =>
      refine q2 C fs1 env1 σ H1 tf Q hC G1 ?_
      have := PostO.step (M2 := M2 ++ M3) s1 po1
      rw [if_pos rfl] at this
      cases z : ca env1 with
      | err => rw [z] at this; exact this
      | ex x env' => rw [z] at this; exact fun cv dd fs' H' G' s => this cv dd fs' H' G' (s.weak (fun i hi => List.mem_append_left _ hi) fun _ z => z)
      | ok d env' => rw [z] at this; exact fun v fs' H' fp G' s r => this v fs' H' fp G' (s.weak (fun i hi => List.mem_append_left _ hi) fun _ z => z) r
    | false =>
      refine q3 C fs1 env1 σ H1 tf Q hC G1 ?_
      have := PostO.step (M2 := M2 ++ M3) s1 po1
      rw [if_neg Bool.false_ne_true] at this
      cases z : cb env1 with
      | err => rw [z] at this; exact this
      | ex x env' => rw [z] at this; exact fun cv dd fs' H' G' s => this cv dd fs' H' G' (s.weak (fun i hi => List.mem_append_right _ hi) fun _ z => z)
      | ok d env' => rw [z] at this; exact fun v fs' H' fp G' s r => this v fs' H' fp G' (s.weak (fun i hi => List.mem_append_right _ hi) fun _ z => z) r
end
end VS

set_option maxRecDepth 100000
namespace VS
open PySem L2 SeqAt
section
variable {X : Cx} {W : WX} {M M1 M2 M3 Rs R1 R2 R3 : List Nat} {e a b c : Expr} {es : List Expr} {ca cb cc : CE} {cs : CA} {pos p : Pos}
variable {pins : List (Addr × Obj)} {σ : St} {H : Hp} {s : Shared} {C : Ctx}

/-! ### keys, look-ups -/
def D.key : D → Option Key
  | .int i => some (.inl i)
  | .str s => some (.inr s)
  | _ => none
theorem key_of {d : D} {k : Key} {v : V} {fp} (h : d.key = some k) (r : Rep C H d v fp) : v = kV k := by
  cases d <;> simp [D.key] at h <;> subst h
  · exact r.1
  · exact r.1
def lookD : List Key → List D → Key → Option D
  | k0 :: ks, d :: ds, k => if k0 = k then some d else lookD ks ds k
  | _, _, _ => none
theorem look_rep : ∀ {kvs : List (Key × V)} {ds : List D} {fp : List Addr} {k : Key} {d : D}, Reps C H ds (kvs.map (·.2)) fp → lookD (kvs.map (·.1)) ds k = some d →
    ∃ v g1 f g2, valV kvs k = some v ∧ Rep C H d v f ∧ fp = g1 ++ f ++ g2
  | [], ds, fp, k, d, r, h => by simp [lookD] at h
  | kv :: kvs, [], fp, k, d, r, h => by simp [lookD] at h
  | kv :: kvs, d0 :: ds, fp, k, d, ⟨v, vs', f1, f2, e, r, rs, e2⟩, h => by
    simp only [List.map_cons, List.cons.injEq] at e
    obtain ⟨rfl, rfl⟩ := e
    simp only [List.map_cons, lookD] at h
    by_cases hk : kv.1 = k
    · rw [if_pos hk] at h
      cases h
      exact ⟨kv.2, [], f1, f2, valV_pos hk, r, by simpa using e2⟩
    · rw [if_neg hk] at h
      obtain ⟨w, g1, f, g2, h1, h2, h3⟩ := look_rep rs h
      exact ⟨w, f1 ++ g1, f, g2, by rw [valV_neg hk]; exact h1, h2, by rw [e2, h3]; simp [List.append_assoc]⟩
theorem look_none : ∀ {kvs : List (Key × V)} {ds : List D} {fp : List Addr} {k : Key}, Reps C H ds (kvs.map (·.2)) fp → lookD (kvs.map (·.1)) ds k = none → valV kvs k = none
  | [], ds, fp, k, r, h => rfl
  | kv :: kvs, [], fp, k, ⟨h1, _⟩, h => by simp at h1
  | kv :: kvs, d0 :: ds, fp, k, ⟨v, vs', f1, f2, e, r, rs, e2⟩, h => by
    simp only [List.map_cons, List.cons.injEq] at e
    obtain ⟨rfl, rfl⟩ := e
    simp only [List.map_cons, lookD] at h
    by_cases hk : kv.1 = k
    · rw [if_pos hk] at h; cases h
    · rw [if_neg hk] at h
      rw [valV_neg hk]; exact look_none rs h
theorem rep_dct {g ks ds v fp} (hF : Fr C H) (r : Rep C H (.dct g ks ds) v fp) : ∃ a kvs f1 f, v = .ref a ∧ Rd H a (.dK kvs) ∧ kvs.map (·.1) = ks ∧ Reps C H ds (kvs.map (·.2)) f ∧ fp = f1 ++ f := by
  obtain ⟨a, kvs, f1, f2, e, n, q, r, _, e2⟩ := r
  exact ⟨a, kvs, f1, f2, e, (Nd.rd n hF).rd (fun xs z => nomatch z), q.1, r, e2⟩
theorem atI_reps {ds : List D} {vs : List V} {fp : List Addr} {i : Int} {d : D} (r : Reps C H ds vs fp) (h : atI ds i = some d) : ∃ v g1 f g2, atI vs i = some v ∧ Rep C H d v f ∧ fp = g1 ++ f ++ g2 := by
  unfold atI at h ⊢
  rw [reps_length r] at h
  cases e : ixN vs.length i with
  | none => rw [e] at h; cases h
  | some j =>
    rw [e] at h
    exact reps_get r h

/-! ### a[b] -/
def ixD : D → D → Option D
  | .lst _ ds, .int i => atI ds i
  | .tup ds, .int i => atI ds i
  | .str s, .int i => if s.length ≤ sizeLine then (atI s.cps.toList i).map fun c => .str ⟨#[c]⟩ else none
  | .dct _ ks ds, k => k.key.bind fun k => lookD ks ds k
  | _, _ => none
def rIxD : L2.R2 := fun x y H Q => ∃ a v, x = .ref a ∧ DGet H a y (some v) ∧ Q v H
theorem ix_dict {k : Nat} (hr : Room k X.A) : IxR X rIxD := by
  intro value slice pins s σ H x y v u Q I rx ry h hs
  obtain ⟨a, z, rfl, g, q⟩ := h
  cases rx
  refine PyProof.Rows.tail_any (ops := [.ref a, u]) (dict_typeIs I g) PySem.F.slot_dict_getitem.lookup ?_ hs
  exact d_getItem (by have := hr.units; omega) I g ry fun w' s' I' r' => ⟨z, H, I', r', q⟩
def cIdx (ca cb : CE) : CE := c2 ixD ca cb
theorem sb_idx {k : Nat} (hr : Room k X.A) (ha : SB X W M1 R1 a ca) (hb : SB X W M2 R2 b cb) (hs : PlainIx b := by exact fun _ _ => rfl) (hd : djB R1 M2 = true := by decide) : SB X W (M1 ++ M2) R1 (.Subscript a b pos) (cIdx ca cb) := by
  obtain ⟨ta, tb, pa, pb, q⟩ := two_go ha hb hd
  refine ⟨tOp (fun x y H Q => rIx X.K x y H Q ∨ rIxD x y H Q) ta tb, pe_ix (ix_seq.or (ix_dict hr)) pa pb hs, fun C fs env σ H tf Q hC G po => q C fs env σ H tf _ hC G ?_⟩
  unfold cIdx c2 at po
  cases e1 : cTwo ca cb env with
  | err => rw [e1] at po; exact po
  | ex x env' => rw [e1] at po; exact po
  | ok d env' =>
    rw [e1] at po
    intro x y fs' H' f1 f2 own G' s r1 r2 i1 i2
    have po' : PostB W C (M1 ++ M2) R1 tf fs env σ H Q (R.of (ixD d.1 d.2) env') := po
    cases e2 : ixD d.1 d.2 with
    | none => rw [e2] at po'; exact po'.elim
    | some z =>
      rw [e2] at po'
      obtain ⟨d1, d2⟩ := d
      have sub : ∀ {g1 f g2 : List Addr}, (∀ b ∈ g1 ++ f ++ g2, b ∈ f1) → In R1 own fs' f := fun {g1 f g2} h b hb => i1 b (h b (by simp [hb]))
      have fin : ∀ (v : V) (g1 f g2 : List Addr), Rep C H' z v f → (∀ b ∈ g1 ++ f ++ g2, b ∈ f1) → Q v H' := fun v g1 f g2 rv hf => po' v fs' H' f own G' s rv (sub hf)
      cases d1 with
      | lst g ds =>
        cases d2 with
        | int i =>
          obtain ⟨ad, vs, g1, g2, rfl, n, rs, _, ef⟩ := r1
          obtain ⟨rfl, _⟩ := r2
          obtain ⟨v, k1, f, k2, h1, h2, h3⟩ := atI_reps rs e2
          refine .inl (.inl ⟨ad, vs, i, v, rfl, rfl, by have := (Nd.rd n G'.fr).sql; rwa [hC.1] at this, h1, fin v k1 f k2 h2 fun b hb => ?_⟩)
          rw [ef, h3]; exact List.mem_append_right _ hb
        | _ => simp [ixD] at e2
      | tup ds =>
        cases d2 with
        | int i =>
          obtain ⟨ad, vs, rfl, n, rs⟩ := r1
          obtain ⟨rfl, _⟩ := r2
          obtain ⟨v, k1, f, k2, h1, h2, h3⟩ := atI_reps rs e2
          refine .inl (.inr (.inl ⟨ad, vs, i, v, rfl, rfl, by rwa [hC.1] at n, h1, fin v k1 f k2 h2 fun b hb => ?_⟩))
          rw [h3]; exact hb
        | _ => simp [ixD] at e2
      | str z0 =>
        cases d2 with
        | int i =>
          obtain ⟨rfl, _⟩ := r1
          obtain ⟨rfl, _⟩ := r2
          simp only [ixD] at e2
          split at e2
          · rename_i hz
            obtain ⟨ch, h1, rfl⟩ := Option.map_eq_some_iff.mp e2
            exact .inl (.inr (.inr ⟨z0, i, ch, rfl, rfl, hz, h1, fin _ [] [] [] ⟨rfl, rfl⟩ (fun b hb => by simp at hb)⟩))
          · cases e2
        | _ => simp [ixD] at e2
      | dct g ks ds =>
        obtain ⟨ad, kvs, g1, g2, rfl, hd', hk, rs, ef⟩ := rep_dct G'.fr r1
        cases hk2 : d2.key with
        | none => simp [ixD, hk2] at e2
        | some ky =>
          simp only [ixD, hk2, Option.bind_some] at e2
          rw [← hk] at e2
          obtain ⟨v, k1, f, k2, h1, h2, h3⟩ := look_rep rs e2
          have ey := key_of hk2 r2
          refine .inr ⟨ad, v, rfl, .inl ⟨kvs, ky, hd', ey, h1.symm⟩, fin v k1 f k2 h2 fun b hb => ?_⟩
          rw [ef, h3]; exact List.mem_append_right _ hb
      | _ => simp [ixD] at e2

/-! ### in -/
mutual
theorem eq_cong (I : Inv X pins σ H s) (hC : C.At X) (hF : Fr C H) : ∀ (d e : D) (n : Nat) (v : V) (f1 f2 : List Addr), eqOk n d = true → eqOk n e = true → Rep C H d v f1 → Rep C H e v f2 → ∀ x, pyEq d x = pyEq e x
  | .non, e, n, v, f1, f2, o1, o2, r1, r2 => by
    obtain ⟨rfl, _⟩ := r1
    cases e <;> simp [Rep] at r2 <;> exact fun _ => rfl
  | .bl b, e, n, v, f1, f2, o1, o2, r1, r2 => by
    obtain ⟨rfl, _⟩ := r1
    cases e <;> simp [Rep] at r2
    rw [r2.1]; exact fun _ => rfl
  | .int i, e, n, v, f1, f2, o1, o2, r1, r2 => by
    obtain ⟨rfl, _⟩ := r1
    cases e <;> simp [Rep] at r2
    rw [r2.1]; exact fun _ => rfl
  | .str i, e, n, v, f1, f2, o1, o2, r1, r2 => by
    obtain ⟨rfl, _⟩ := r1
    cases e <;> simp [Rep] at r2
    rw [r2.1]; exact fun _ => rfl
  | .ty i, e, n, v, f1, f2, o1, o2, r1, r2 => by simp [eqOk] at o1
  | .dct _ _ _, e, n, v, f1, f2, o1, o2, r1, r2 => by simp [eqOk] at o1
  | .obj _ _ _ _, e, n, v, f1, f2, o1, o2, r1, r2 => by simp [eqOk] at o1
  | .lst g ds, e, n, v, f1, f2, o1, o2, r1, r2 => by
    obtain ⟨a, vs, f, rfl, q, rs⟩ := rep_list hC hF r1
    cases n with
    | zero => simp [eqOk] at o1
    | succ n =>
      cases e with
      | lst g2 es =>
        obtain ⟨b, ws, f', e1, q2, rs2⟩ := rep_list hC hF r2
        cases e1
        rw [I.list_inj q2 q] at rs2
        have h := eqs_cong I hC hF ds es n vs f f' (by simpa [eqOk] using o1) (by simpa [eqOk] using o2) rs rs2
        intro x
        cases x <;> simp only [pyEq]
        exact h _
      | tup es =>
        obtain ⟨b, ws, e1, q2, rs2⟩ := rep_tup hC r2
        cases e1
        exact (ltu I q q2).elim
      | ty _ => simp [eqOk] at o2
      | dct _ _ _ => simp [eqOk] at o2
      | obj _ _ _ _ => simp [eqOk] at o2
      | _ => simp [Rep] at r2
  | .tup ds, e, n, v, f1, f2, o1, o2, r1, r2 => by
    obtain ⟨a, vs, rfl, q, rs⟩ := rep_tup hC r1
    cases n with
    | zero => simp [eqOk] at o1
    | succ n =>
      cases e with
      | tup es =>
        obtain ⟨b, ws, e1, q2, rs2⟩ := rep_tup hC r2
        cases e1
        rw [I.tuple_inj q2 q] at rs2
        have h := eqs_cong I hC hF ds es n vs f1 f2 (by simpa [eqOk] using o1) (by simpa [eqOk] using o2) rs rs2
        intro x
        cases x <;> simp only [pyEq]
        exact h _
      | lst g es =>
        obtain ⟨b, ws, f, e1, q2, rs2⟩ := rep_list hC hF r2
        cases e1
        exact (ltu I q2 q).elim
      | ty _ => simp [eqOk] at o2
      | dct _ _ _ => simp [eqOk] at o2
      | obj _ _ _ _ => simp [eqOk] at o2
      | _ => simp [Rep] at r2
theorem eqs_cong (I : Inv X pins σ H s) (hC : C.At X) (hF : Fr C H) : ∀ (ds es : List D) (n : Nat) (vs : List V) (f1 f2 : List Addr), eqOks n ds = true → eqOks n es = true → Reps C H ds vs f1 → Reps C H es vs f2 → ∀ xs, pyEqs ds xs = pyEqs es xs
  | [], es, n, vs, f1, f2, o1, o2, r1, r2 => by
    have := reps_length r1
    have h2 := reps_length r2
    cases es with
    | nil => exact fun _ => rfl
    | cons e es => simp at this h2; omega
  | d :: ds, [], n, vs, f1, f2, o1, o2, r1, r2 => by
    have := reps_length r1
    have h2 := reps_length r2
    simp at this h2; omega
  | d :: ds, e :: es, n, vs, f1, f2, o1, o2, ⟨v, vs', g1, g2, e1, r1, rs1, _⟩, ⟨w, ws', k1, k2, e2, r2, rs2, _⟩ => by
    rw [e1] at e2; cases e2
    simp only [eqOks, Bool.and_eq_true] at o1 o2
    intro xs
    cases xs with
    | nil => rfl
    | cons x xs => rw [pyEqs, pyEqs, eq_cong I hC hF d e n v g1 k1 o1.1 o2.1 r1 r2 x, eqs_cong I hC hF ds es n vs' g2 k2 o1.2 o2.2 rs1 rs2 xs]
end
theorem eqOks_get : ∀ {ds : List D} {n i : Nat} {d : D}, eqOks n ds = true → ds[i]? = some d → eqOk n d = true
  | [], n, i, d, _, h => by simp at h
  | d0 :: ds, n, 0, d, h, e => by simp at e; subst e; simp only [eqOks, Bool.and_eq_true] at h; exact h.1
  | d0 :: ds, n, i + 1, d, h, e => by simp only [eqOks, Bool.and_eq_true] at h; exact eqOks_get h.2 (by simpa using e)
theorem eqOk_mono : ∀ {n m : Nat}, n ≤ m → ∀ d, (eqOk n d = true → eqOk m d = true) := by
  intro n m h d
  exact (by
    have key : (∀ d : D, ∀ n m, n ≤ m → eqOk n d = true → eqOk m d = true) := by
      intro d
      exact D.rec (motive_1 := fun d => ∀ n m, n ≤ m → eqOk n d = true → eqOk m d = true) (motive_2 := fun ds => ∀ n m, n ≤ m → eqOks n ds = true → eqOks m ds = true)
        (fun _ _ _ _ => by simp [eqOk]) (fun _ _ _ _ _ => by simp [eqOk]) (fun _ _ _ _ _ => by simp [eqOk]) (fun _ _ _ _ _ => by simp [eqOk]) (fun _ n m _ h => by simp [eqOk] at h)
        (fun ds ih n m hnm h => by
          cases n with
          | zero => simp [eqOk] at h
          | succ n => cases m with
            | zero => omega
            | succ m => simp only [eqOk] at h ⊢; exact ih n m (by omega) h)
        (fun g ds ih n m hnm h => by
          cases n with
          | zero => simp [eqOk] at h
          | succ n => cases m with
            | zero => omega
            | succ m => simp only [eqOk] at h ⊢; exact ih n m (by omega) h)
        (fun _ _ _ _ n m _ h => by simp [eqOk] at h) (fun _ _ _ _ _ n m _ h => by simp [eqOk] at h)
        (fun _ _ _ _ => by simp [eqOks])
        (fun d ds h1 h2 n m hnm h => by
          simp only [eqOks, Bool.and_eq_true] at h ⊢
          exact ⟨h1 n m hnm h.1, h2 n m hnm h.2⟩) d
    exact key d n m h)
open Classical in
/-- the items' test as a function of the machine's values -/
noncomputable def inE (us : List Value) (ds : List D) (x : D) (y : Value) : Bool := decide (∃ (j : Nat) (d : D), us[j]? = some y ∧ ds[j]? = some d ∧ pyEq d x = true)
theorem vals_get' {vs : List V} {us : List Value} (r : Vals vs us) {j : Nat} {u : Value} (h : us[j]? = some u) : ∃ v, vs[j]? = some v ∧ RelV v u := by
  have hl := r.length
  have hj : j < vs.length := by rw [hl]; exact (List.getElem?_eq_some_iff.mp h).1
  obtain ⟨u', h1, h2⟩ := r.get (i := j) (x := vs[j]) (by simp [hj])
  rw [h] at h1; cases h1
  exact ⟨vs[j], by simp [hj], h2⟩
theorem inE_at (I : Inv X pins σ H s) (hC : C.At X) (hF : Fr C H) {ds : List D} {x : D} {vs : List V} {us : List Value} {w : V} {xu : Value} {f1 f2 : List Addr} {A : Around} (o1 : eqOks 40 ds = true) (o2 : eqOk 40 x = true) (rs : Reps C H ds vs f1) (rv : Vals vs us)
    (rx : Rep C H x w f2) (rw' : RelV w xu) (hu : A.units + 41 < cLine) : (∀ y ∈ us, EqAt A s y xu (inE us ds x y)) ∧ us.any (inE us ds x) = ds.any (fun d => pyEq d x) := by
  have hl := reps_vals rs rv
  have val : ∀ (j : Nat) (u : Value) (d : D), us[j]? = some u → ds[j]? = some d → inE us ds x u = pyEq d x := by
    intro j u d hj hd
    unfold inE
    obtain ⟨v, g1, f, g2, hv, r, _⟩ := reps_get rs hd
    obtain ⟨v2, hv2, rv2⟩ := vals_get' rv hj
    rw [hv] at hv2; cases hv2
    cases q : pyEq d x with
    | true =>
      classical
      exact decide_eq_true ⟨j, d, hj, hd, q⟩
    | false =>
      classical
      refine decide_eq_false ?_
      rintro ⟨j', d', hj', hd', q'⟩
      obtain ⟨v', _, f', _, hv', r', _⟩ := reps_get rs hd'
      obtain ⟨v3, hv3, rv3⟩ := vals_get' rv hj'
      rw [hv'] at hv3; cases hv3
      have : v' = v := rv3.inj rv2
      subst this
      rw [eq_cong I hC hF d' d 40 v' f' f (eqOks_get o1 hd') (eqOks_get o1 hd) r' r x] at q'
      rw [q] at q'; cases q'
  refine ⟨fun y hy => ?_, ?_⟩
  · obtain ⟨j, hj⟩ := List.mem_iff_getElem?.mp hy
    have hjl : j < ds.length := by rw [hl]; exact (List.getElem?_eq_some_iff.mp hj).1
    have hd : ds[j]? = some ds[j] := by simp [hjl]
    obtain ⟨v, g1, f, g2, hv, r, _⟩ := reps_get rs hd
    obtain ⟨v2, hv2, rv2⟩ := vals_get' rv hj
    rw [hv] at hv2; cases hv2
    rw [val j y _ hj hd]
    exact (rc_rep I hC hF ds[j] x 40 A v w f f2 y xu (eqOks_get o1 hd) o2 r rx rv2 rw' (by omega)).2
  · rw [Bool.eq_iff_iff, List.any_eq_true, List.any_eq_true]
    constructor
    · rintro ⟨y, hy, q⟩
      obtain ⟨j, hj⟩ := List.mem_iff_getElem?.mp hy
      have hjl : j < ds.length := by rw [hl]; exact (List.getElem?_eq_some_iff.mp hj).1
      have hd : ds[j]? = some ds[j] := by simp [hjl]
      exact ⟨ds[j], List.getElem_mem hjl, by rw [← val j y _ hj hd]; exact q⟩
    · rintro ⟨d, hd, q⟩
      obtain ⟨j, hj⟩ := List.mem_iff_getElem?.mp hd
      have hjl : j < us.length := by rw [← hl]; exact (List.getElem?_eq_some_iff.mp hj).1
      have hd' : us[j]? = some us[j] := by simp [hjl]
      exact ⟨us[j], List.getElem_mem hjl, by rw [val j _ d hd' hj]; exact q⟩
def inB : D → D → Option Bool
  | x, .lst _ ds => if eqOk 40 x && eqOks 40 ds then some (ds.any fun d => pyEq d x) else none
  | x, .tup ds => if eqOk 40 x && eqOks 40 ds then some (ds.any fun d => pyEq d x) else none
  | x, .dct _ ks ds => x.key.map fun k => (lookD ks ds k).isSome
  | .str i, .str j => some (!(Builtin.Str.occurrences j i 0 j.length 1).isEmpty)
  | _, _ => none
def pIn (x y : D) : Option D := (inB x y).map .bl
def pNotIn (x y : D) : Option D := (inB x y).map fun b => .bl (!b)
theorem od_inG {op : CmpOp} {neg : Bool} {kk : Nat} (hr : Room kk X.A)
    (hlist : ∀ {s : Shared} {l : Addr} {items : Array Value} {x : Value} {Q : Value → Shared → Prop} (e : Value → Bool), s.heap.IsList l items → (∀ y, y ∈ items → EqAt X.A.in1 s y x (e y)) → Q (.bool (if neg then !items.any e else items.any e)) s → wpAny (model X.prog X.w) X.A (compareOp op x (.ref l)) Q X.xe s)
    (htup : ∀ {s : Shared} {l : Addr} {items : Array Value} {x : Value} {Q : Value → Shared → Prop} (e : Value → Bool), s.heap.IsTuple l items → (∀ y, y ∈ items → EqAt X.A.in1 s y x (e y)) → Q (.bool (if neg then !items.any e else items.any e)) s → wpAny (model X.prog X.w) X.A (compareOp op x (.ref l)) Q X.xe s)
    (hdic : ∀ {pins s σ H a y u o} {Q : Value → Shared → Prop}, Inv X pins σ H s → DGet H a y o → RelV y u → (∀ s', Inv X pins σ H s' → Q (.bool (if neg then !o.isSome else o.isSome)) s') → wpAny (model X.prog X.w) X.A (compareOp op u (.ref a)) Q X.xe s)
    (hstr : OpR X (compareOp op) (fun x y H Q => ∃ i j, x = .str i ∧ y = .str j ∧ Q (.bl (if neg then !(!(Builtin.Str.occurrences j i 0 j.length 1).isEmpty) else !(Builtin.Str.occurrences j i 0 j.length 1).isEmpty)) H)) :
    OD2 X (compareOp op) (fun x y => (inB x y).map fun b => .bl (if neg then !b else b)) := by
  intro pins s σ H x y v u Q I rx ry ⟨C, dx, dy, fx, fy, d, hC, hF, r1, r2, e, kk⟩
  obtain ⟨b, hb, rfl⟩ := Option.map_eq_some_iff.mp e
  have q := kk.here (v := .bl (if neg then !b else b)) ⟨rfl, rfl⟩
  have hun := hr.units
  have hin1 : X.A.in1.units + 41 < cLine := by show X.A.units + 1 + 41 < cLine; omega
  cases dy with
  | lst g ds =>
    have hb' : (if eqOk 40 dx && eqOks 40 ds then some (ds.any fun d => pyEq d dx) else none) = some b := by cases dx <;> exact hb
    split at hb'
    · rename_i ho
      cases hb'
      have ho := Bool.and_eq_true_iff.mp ho
      obtain ⟨a, vs, f, rfl, qa, rs⟩ := rep_list hC hF r2
      cases (show u = Value.ref a from ry)
      obtain ⟨its, rv, pl, _⟩ := I.list qa
      obtain ⟨h1, h2⟩ := inE_at I hC hF (A := X.A.in1) ho.2 ho.1 rs rv r1 rx hin1
      refine hlist (inE its ds dx) pl.isList (fun y hy => h1 y (by simpa using hy)) ⟨.bl _, H, I, ?_, q⟩
      rw [List.any_toArray, h2]; rfl
    · cases hb'
  | tup ds =>
    have hb' : (if eqOk 40 dx && eqOks 40 ds then some (ds.any fun d => pyEq d dx) else none) = some b := by cases dx <;> exact hb
    split at hb'
    · rename_i ho
      cases hb'
      have ho := Bool.and_eq_true_iff.mp ho
      obtain ⟨a, vs, rfl, qa, rs⟩ := rep_tup hC r2
      cases (show u = Value.ref a from ry)
      obtain ⟨its, rv, pl, _⟩ := I.tuple qa
      obtain ⟨h1, h2⟩ := inE_at I hC hF (A := X.A.in1) ho.2 ho.1 rs rv r1 rx hin1
      refine htup (inE its ds dx) (show s.heap.IsTuple a its.toArray from pl) (fun y hy => h1 y (by simpa using hy)) ⟨.bl _, H, I, ?_, q⟩
      rw [List.any_toArray, h2]; rfl
    · cases hb'
  | dct g ks ds =>
    have hb' : (dx.key.map fun k => (lookD ks ds k).isSome) = some b := by cases dx <;> exact hb
    obtain ⟨ky, hk, rfl⟩ := Option.map_eq_some_iff.mp hb'
    obtain ⟨ad, kvs, g1, g2, rfl, hd', hks, rs, ef⟩ := rep_dct hF r2
    cases (show u = Value.ref ad from ry)
    have ex := key_of hk r1
    refine hdic I (.inl ⟨kvs, ky, hd', ex, rfl⟩) rx fun s' I' => ⟨.bl _, H, I', ?_, q⟩
    have : (valV kvs ky).isSome = (lookD ks ds ky).isSome := by
      rw [← hks]
      cases z : lookD (kvs.map (·.1)) ds ky with
      | none => rw [look_none rs z]; rfl
      | some w => obtain ⟨v', _, _, _, h1, _⟩ := look_rep rs z; rw [h1]; rfl
    rw [this]; rfl
  | str j =>
    cases dx with
    | str i =>
      obtain ⟨rfl, _⟩ := r1
      obtain ⟨rfl, _⟩ := r2
      simp only [inB] at hb
      cases hb
      exact hstr pins s σ H _ _ v u Q I rx ry ⟨i, j, rfl, rfl, q⟩
    | _ => simp [inB] at hb
  | _ => cases dx <;> simp [inB] at hb
theorem od_in {kk : Nat} (hr : Room kk X.A) : OD2 X (compareOp .In) pIn :=
  od_inG (neg := false) hr (fun e h1 h2 q => in_listAt e h1 h2 (by simpa using q)) (fun e h1 h2 q => in_tupleAt e h1 h2 (by simpa using q)) (fun I g r h => d_in (by have := hr.units; omega) I g r (by simpa using h)) (by simpa using op_in_str)
theorem od_notin {kk : Nat} (hr : Room kk X.A) : OD2 X (compareOp .NotIn) pNotIn :=
  od_inG (neg := true) hr (fun e h1 h2 q => notIn_listAt e h1 h2 (by simpa using q)) (fun e h1 h2 q => notIn_tupleAt e h1 h2 (by simpa using q)) (fun I g r h => d_notIn (by have := hr.units; omega) I g r (by simpa using h)) (by simpa using op_notin_str)
end
end VS

set_option maxRecDepth 100000
namespace VS
open PySem L2 SeqAt
section
variable {X : Cx} {W : WX} {M M1 M2 M3 Rs R1 R2 R3 : List Nat} {e a b c : Expr} {es : List Expr} {ca cb cc : CE} {cs : CA} {pos p : Pos}
variable {pins : List (Addr × Obj)} {σ : St} {H : Hp} {s : Shared} {C : Ctx}

/-! ### calls of what Python has -/
def cL (p : List D → Option D) (cs : CA) : CE := fun env => (cs env).bind fun ds env => R.of (p ds) env
theorem comes_postA {fs fs1 : FPs} {env env1 : Env} {H H1 : Hp} {tf own : List Addr} {d : D} {Q : VK} (G1 : Good C fs1 env1 σ H1 (own ++ tf)) (s1 : Step M tf fs env H fs1 env1 H1)
    (po : PostO W C M tf fs env σ H Q (.ok d env1)) : Comes C H1 d Q := comes_post G1 s1 po
theorem cL_go {p : List D → Option D} (ha : SA X W M Rs es cs) : ∃ t, PA X es t ∧ ∀ C fs env σ H tf Q, C.At X → Good C fs env σ H tf → PostO W C M tf fs env σ H Q (cL p cs env) → tCB (rDL X p) t σ H Q := by
  obtain ⟨t, pa, q⟩ := ha.go
  refine ⟨t, pa, fun C fs env σ H tf Q hC G po => ?_⟩
  show t σ H fun vs H1 => rDL X p vs H1 Q
  refine q C fs env σ H tf _ hC G ?_
  unfold cL at po
  cases e1 : cs env with
  | err => rw [e1] at po; exact po
  | ex x env' => rw [e1] at po; exact po
  | ok ds env' =>
    rw [e1] at po
    intro vs fs' H' fp own G' s r i
    have po' : PostO W C M tf fs env σ H Q (R.of (p ds) env') := po
    cases e2 : p ds with
    | none => rw [e2] at po'; exact po'.elim
    | some z =>
      rw [e2] at po'
      exact ⟨C, ds, fp, z, hC, G'.fr, r, e2, comes_post G' s po'⟩
theorem so_callB {id : String} {x : Str} {pf : Pos} {pr : List D → Option D} (hc : ODL X (.builtin id) pr) (hg : Gl X x) (hm : X.mg x = none) (hv : bootBuiltins x = some (.builtin id)) (ha : SA X W M Rs (e :: es) cs) (hn : x ≠ "__name__" := by decide) (hdb : (x == ("__debug__" : Str)) = false := by decide)
    (he : starEach (e :: es) X.env = (false, eval e X.env) :: starEach es X.env := by rfl) (hpl : (backTo pos (starEach es X.env)).any (·.1) = false := by rfl) : SO X W M (.Call (.Name x pf) (e :: es) [] pos) (cL pr cs) := by
  obtain ⟨t, pa, q⟩ := cL_go (p := pr) ha
  exact ⟨_, pe_callB hc hg hm hv pa hn hdb he hpl, q⟩
theorem so_callTy {T : String} {x : Str} {pf : Pos} {pr : List D → Option D} (hc : ODL X (.type T) pr) (hg : Gl X x) (hm : X.mg x = none) (hv : bootBuiltins x = some (.type T)) (ha : SA X W M Rs (e :: es) cs) (hn : x ≠ "__name__" := by decide) (hdb : (x == ("__debug__" : Str)) = false := by decide)
    (he : starEach (e :: es) X.env = (false, eval e X.env) :: starEach es X.env := by rfl) (hpl : (backTo pos (starEach es X.env)).any (·.1) = false := by rfl) : SO X W M (.Call (.Name x pf) (e :: es) [] pos) (cL pr cs) := by
  obtain ⟨t, pa, q⟩ := cL_go (p := pr) ha
  exact ⟨_, pe_callTy hc hg hm hv pa hn hdb he hpl, q⟩
/-- a built-in type's name as a value -/
theorem so_ty {T : String} {x : Str} (hg : Gl X x) (hm : X.mg x = none) (hv : bootBuiltins x = some (.type T)) (hn : x ≠ "__name__" := by decide) (hd : (x == ("__debug__" : Str)) = false := by decide) : SO X W [] (.Name x pos) (cK (.ty T)) :=
  so_k (v := .ty T) (pe_bltn hg hm hv (show RelV (.ty T) (.type T) from rfl) hn hd) (fun _ _ _ h => h) fun _ _ => ⟨rfl, rfl⟩

theorem reps1 {d : D} {vs : List V} {fp} (r : Reps C H [d] vs fp) : ∃ v, vs = [v] ∧ Rep C H d v fp := by
  obtain ⟨v, vs', f1, f2, rfl, r1, ⟨rfl, rfl⟩, rfl⟩ := r
  exact ⟨v, rfl, by simpa using r1⟩
theorem reps2 {d e : D} {vs : List V} {fp} (r : Reps C H [d, e] vs fp) : ∃ v w f1 f2, vs = [v, w] ∧ Rep C H d v f1 ∧ Rep C H e w f2 ∧ fp = f1 ++ f2 := by
  obtain ⟨v, vs', f1, f2, rfl, r1, r2, rfl⟩ := r
  obtain ⟨w, rfl, r3⟩ := reps1 r2
  exact ⟨v, w, f1, f2, rfl, r1, r3, rfl⟩
def pLen : List D → Option D
  | [.lst _ ds] => some (.int ds.length)
  | [.tup ds] => some (.int ds.length)
  | [.dct _ ks _] => some (.int ks.length)
  | [.str s] => if s.length ≤ sizeLine then some (.int s.length) else none
  | _ => none
theorem od_len : ODL X (.builtin "len") pLen := by
  intro pins s σ H xs us Q I rv ⟨C, ds, fx, d, hC, hF, rs, e, k⟩
  unfold pLen at e
  split at e
  · rename_i g zs
    obtain ⟨v, rfl, r⟩ := reps1 rs
    obtain ⟨a, vs, f, rfl, q, rz⟩ := rep_list hC hF r
    cases e
    refine call_len_seq pins s σ H _ us Q I rv ⟨a, vs, rfl, .inl q, ?_⟩
    rw [← reps_length rz]
    exact k.here ⟨rfl, rfl⟩
  · rename_i zs
    obtain ⟨v, rfl, r⟩ := reps1 rs
    obtain ⟨a, vs, rfl, q, rz⟩ := rep_tup hC r
    cases e
    refine call_len_seq pins s σ H _ us Q I rv ⟨a, vs, rfl, .inr q, ?_⟩
    rw [← reps_length rz]
    exact k.here ⟨rfl, rfl⟩
  · rename_i g ks zs
    obtain ⟨v, rfl, r⟩ := reps1 rs
    obtain ⟨ad, kvs, g1, g2, rfl, hd, hk, rz, _⟩ := rep_dct hF r
    cases e
    obtain ⟨u, rfl, ru⟩ := vals1 rv
    cases (show u = Value.ref ad from ru)
    refine d_len I hd fun t s' I' => ⟨.int kvs.length, H, I', ⟨t, rfl⟩, ?_⟩
    have : kvs.length = ks.length := by rw [← hk]; simp
    rw [this]; exact k.here ⟨rfl, rfl⟩
  · rename_i z
    obtain ⟨v, rfl, r⟩ := reps1 rs
    obtain ⟨rfl, _⟩ := r
    split at e
    · rename_i hz
      cases e
      exact call_len pins s σ H _ us Q I rv ⟨.str z, z.length, rfl, ⟨hz, rfl⟩, k.here ⟨rfl, rfl⟩⟩
    · cases e
  · cases e
def pAbs : List D → Option D
  | [.int i] => some (.int (if i < 0 then -i else i))
  | _ => none
theorem od_abs : ODL X (.builtin "abs") pAbs := by
  refine ODL.of call_abs fun xs H Q ⟨C, ds, fx, d, hC, hF, rs, e, k⟩ => ?_
  unfold pAbs at e
  split at e
  · rename_i i
    obtain ⟨v, rfl, r⟩ := reps1 rs
    obtain ⟨rfl, _⟩ := r
    cases e
    exact ⟨i, rfl, k.here ⟨rfl, rfl⟩⟩
  · cases e
def pMin2 : List D → Option D
  | [.int i, .int j] => some (.int (if j < i then j else i))
  | _ => none
def pMax2 : List D → Option D
  | [.int i, .int j] => some (.int (if i < j then j else i))
  | _ => none
theorem od_min2 (hc : X.calm = true) : ODL X (.builtin "min") pMin2 := by
  refine ODL.of (call_min2 hc) fun xs H Q ⟨C, ds, fx, d, hC, hF, rs, e, k⟩ => ?_
  unfold pMin2 at e
  split at e
  · rename_i i j
    obtain ⟨v, w, f1, f2, rfl, r, r', _⟩ := reps2 rs
    obtain ⟨rfl, _⟩ := r
    obtain ⟨rfl, _⟩ := r'
    cases e
    exact ⟨i, j, rfl, k.here ⟨rfl, rfl⟩⟩
  · cases e
theorem od_max2 (hc : X.calm = true) : ODL X (.builtin "max") pMax2 := by
  refine ODL.of (call_max2 hc) fun xs H Q ⟨C, ds, fx, d, hC, hF, rs, e, k⟩ => ?_
  unfold pMax2 at e
  split at e
  · rename_i i j
    obtain ⟨v, w, f1, f2, rfl, r, r', _⟩ := reps2 rs
    obtain ⟨rfl, _⟩ := r
    obtain ⟨rfl, _⟩ := r'
    cases e
    exact ⟨i, j, rfl, k.here ⟨rfl, rfl⟩⟩
  · cases e
def pInt1 : List D → Option D
  | [.int i] => some (.int i)
  | [.bl b] => some (.int (if b then 1 else 0))
  | _ => none
theorem od_int1 : ODL X (.type "int") pInt1 := by
  refine ODL.of call_int1 fun xs H Q ⟨C, ds, fx, d, hC, hF, rs, e, k⟩ => ?_
  unfold pInt1 at e
  split at e
  · rename_i i
    obtain ⟨v, rfl, r⟩ := reps1 rs
    obtain ⟨rfl, _⟩ := r
    cases e
    exact .inl ⟨i, rfl, k.here ⟨rfl, rfl⟩⟩
  · rename_i i
    obtain ⟨v, rfl, r⟩ := reps1 rs
    obtain ⟨rfl, _⟩ := r
    cases e
    exact .inr ⟨i, rfl, k.here ⟨rfl, rfl⟩⟩
  · cases e

/-! ### isinstance -/
def D.tyn : D → Option String
  | .non => some "NoneType"
  | .bl _ => some "bool"
  | .int _ => some "int"
  | .str _ => some "str"
  | .tup _ => some "tuple"
  | .lst _ _ => some "list"
  | .dct _ _ _ => some "dict"
  | _ => none
def isiB (a b : String) : Bool := a == b || (a == "bool" && b == "int")
def tyNames : List String := ["NoneType", "bool", "int", "str", "tuple", "list", "dict"]
def clNames : List String := ["bool", "int", "str", "tuple", "list", "dict"]
theorem kit_tab : (tyNames.all fun a => clNames.all fun b => kitB a b == some (isiB a b)) = true := by decide +kernel
theorem kit_isi {K : PySem.W.Frag} {a b : String} (ha : a ∈ tyNames) (hb : b ∈ clNames) : PySem.W.kitOne K (.type a) (.type b) = some (isiB a b) :=
  kit_ty (eq_of_beq (List.all_eq_true.mp (List.all_eq_true.mp kit_tab a ha) b hb))
theorem tyn_mem {d : D} {t : String} (h : d.tyn = some t) : t ∈ tyNames := by
  cases d <;> simp [D.tyn] at h <;> subst h <;> decide
def tyNm : D → Option String
  | .ty n => if clNames.contains n then some n else none
  | _ => none
def tyNms : List D → Option (List String)
  | [] => some []
  | d :: ds => (tyNm d).bind fun n => (tyNms ds).map fun ns => n :: ns
def pIsi : List D → Option D
  | [d, .ty n] => d.tyn.bind fun t => (tyNm (.ty n)).map fun n => .bl (isiB t n)
  | [d, .tup cs] => d.tyn.bind fun t => (tyNms cs).map fun ns => .bl (ns.any fun n => isiB t n)
  | _ => none
theorem tyx_of {d : D} {t : String} {v : V} {fp} (hC : C.At X) (hF : Fr C H) (h : d.tyn = some t) (r : Rep C H d v fp) : TyX X.K H v (.type t) := by
  cases d with
  | non => cases h; obtain ⟨rfl, _⟩ := r; exact .base .non
  | bl b => cases h; obtain ⟨rfl, _⟩ := r; exact .base (.bl b)
  | int b => cases h; obtain ⟨rfl, _⟩ := r; exact .base (.int b)
  | str b => cases h; obtain ⟨rfl, _⟩ := r; exact .base (.str b)
  | tup ds =>
    cases h
    obtain ⟨a, vs, rfl, q, _⟩ := rep_tup hC r
    rcases q with (q | ⟨o, q⟩) | ⟨o, its, n, hk, hc, _⟩
    · exact .base (.tup q)
    · exact .fTuple q
    · exact .kTuple hk hc
  | lst g ds =>
    cases h
    obtain ⟨a, vs, f, rfl, q, _⟩ := rep_list hC hF r
    rcases q with (q | ⟨o, q⟩) | ⟨o, its, n, hk, hc, _⟩
    · exact .base (.lst q)
    · exact .base (.frz q)
    · exact .kList hk hc
  | dct g ks ds =>
    cases h
    obtain ⟨ad, kvs, g1, g2, rfl, hd, hk, rz, _⟩ := rep_dct hF r
    rcases hd with q | ⟨o, q⟩
    · exact .base (.dK q)
    · exact .fDict q
  | ty _ => cases h
  | obj _ _ _ _ => cases h
theorem tyNm_inv {d : D} {n : String} (h : tyNm d = some n) : d = .ty n ∧ n ∈ clNames := by
  cases d <;> simp [tyNm] at h
  obtain ⟨h1, rfl⟩ := h
  exact ⟨rfl, by simpa using h1⟩
theorem tyNms_inv {C : Ctx} {H : Hp} : ∀ {cs : List D} {ns : List String} {vs : List V} {fp}, tyNms cs = some ns → Reps C H cs vs fp → ∃ us : List Value, us = ns.map Value.type ∧ Paired ClsV vs us ∧ ∀ n ∈ ns, n ∈ clNames
  | [], ns, vs, fp, h, ⟨e, _⟩ => by subst e; cases h; exact ⟨[], rfl, .nil, fun _ z => nomatch z⟩
  | d :: ds, ns, vs, fp, h, ⟨v, vs', f1, f2, e, r, rs, _⟩ => by
    simp only [tyNms] at h
    obtain ⟨n, hn, h⟩ := Option.bind_eq_some_iff.mp h
    obtain ⟨ns', hns, rfl⟩ := Option.map_eq_some_iff.mp h
    obtain ⟨rfl, hm⟩ := tyNm_inv hn
    obtain ⟨rfl, _⟩ := r
    subst e
    obtain ⟨us, rfl, hp, hall⟩ := tyNms_inv hns rs
    refine ⟨_, rfl, .cons (.ty n) hp, fun m hm' => ?_⟩
    rcases List.mem_cons.mp hm' with rfl | z
    · exact hm
    · exact hall m z
theorem kitAny_isi {K : PySem.W.Frag} {a : String} (ha : a ∈ tyNames) : ∀ {ns : List String}, (∀ n ∈ ns, n ∈ clNames) → PySem.W.kitAny K (.type a) (ns.map Value.type) = some (ns.any fun n => isiB a n)
  | [], _ => rfl
  | n :: ns, h => by
    show PySem.W.kitAny K (.type a) (Value.type n :: ns.map Value.type) = _
    unfold PySem.W.kitAny
    rw [kit_isi ha (h n (by simp))]
    cases q : isiB a n with
    | true => simp [q]
    | false => simp [q]; exact kitAny_isi ha fun m hm => h m (by simp [hm])
theorem call_isiT' : CallR X (.builtin "isinstance") (fun xs H Q => ∃ (x : V) (tp : Addr) (cs : List V) (t : Value) (us : List Value) (b : Bool), xs = [x, .ref tp] ∧ SqT X.K H tp cs ∧ Paired ClsV cs us ∧ TyX X.K H x t ∧ PySem.W.kitAny X.K t us = some b ∧ Q (.bl b) H) := by
  intro pins s σ H xs us Q I r h
  obtain ⟨x, tp, cs, t, ws, b, rfl, hT, k, ty, e, q⟩ := h
  obtain ⟨u1, u2, rfl, r1, r2⟩ := vals2 r
  cases (show u2 = Value.ref tp from r2)
  obtain ⟨P, Z, p, hx⟩ := kit_of I r1 ty
  obtain ⟨its, rv, ⟨o, h1, h2, n, h3⟩, _⟩ := I.tuple hT
  have e3 := ClsV.all k rv
  subst e3
  obtain ⟨oc, od, dt, sl⟩ := o
  simp only at h2 h3
  subst h2 h3
  exact PySem.W.kia_tup Z I.kIn p h1 e hx fun tk => ⟨.bl b, H, I.tok tk, rfl, q⟩
theorem od_isi : ODL X (.builtin "isinstance") pIsi := by
  intro pins s σ H xs us Q I rv ⟨C, ds, fx, d, hC, hF, rs, e, k⟩
  unfold pIsi at e
  split at e
  · rename_i d0 n
    obtain ⟨v, w, f1, f2, rfl, r, r', _⟩ := reps2 rs
    obtain ⟨rfl, _⟩ := r'
    obtain ⟨t, ht, e⟩ := Option.bind_eq_some_iff.mp e
    obtain ⟨m, hm, rfl⟩ := Option.map_eq_some_iff.mp e
    obtain ⟨h1, h2⟩ := tyNm_inv hm
    cases h1
    exact call_isi pins s σ H _ us Q I rv ⟨v, .ty n, .type t, .type n, isiB t n, rfl, .ty n, tyx_of hC hF ht r, kit_isi (tyn_mem ht) h2, k.here ⟨rfl, rfl⟩⟩
  · rename_i d0 cs
    obtain ⟨v, w, f1, f2, rfl, r, r', _⟩ := reps2 rs
    obtain ⟨a, vs, rfl, q, rz⟩ := rep_tup hC r'
    obtain ⟨t, ht, e⟩ := Option.bind_eq_some_iff.mp e
    obtain ⟨ns, hns, rfl⟩ := Option.map_eq_some_iff.mp e
    obtain ⟨us', e1, hp, hall⟩ := tyNms_inv hns rz
    subst e1
    exact call_isiT' pins s σ H _ us Q I rv ⟨v, a, vs, .type t, _, ns.any fun n => isiB t n, rfl, q, hp, tyx_of hC hF ht r, kitAny_isi (tyn_mem ht) hall, k.here ⟨rfl, rfl⟩⟩
  · cases e

/-! ### displays -/
def PostAO (W : WX) (C : Ctx) (M : List Nat) (tf : List Addr) (fs : FPs) (env : Env) (σ : St) (H : Hp) (Q : List V → Hp → Prop) : R (List D) → Prop
  | .ok ds env' => ∀ vs fs' H' fp, Good C fs' env' σ H' (fp ++ tf) → Step M tf fs env H fs' env' H' → Reps C H' ds vs fp → Q vs H'
  | .ex x env' => ∀ cv dd fs' H', Good C fs' env' σ H' tf → Step M tf fs env H fs' env' H' → ExIs C x cv dd H' → W cv dd σ H'
  | .err => False
/-- arguments that are all owned -/
structure SAO (X : Cx) (W : WX) (M : List Nat) (es : List Expr) (c : CA) : Prop where
  go : ∃ t, PA X es t ∧ ∀ C fs env σ H tf Q, C.At X → Good C fs env σ H tf → PostAO W C M tf fs env σ H Q (c env) → t σ H Q
theorem sao_nil : SAO X W [] [] cNil := by
  refine ⟨tNil, pa_nil, fun C fs env σ H tf Q hC G po => ?_⟩
  exact po [] fs H [] (by simpa using G) .refl ⟨rfl, rfl⟩
theorem Good.swap {fs : FPs} {env : Env} {tf f1 f2 : List Addr} (G : Good C fs env σ H (f2 ++ (f1 ++ tf))) : Good C fs env σ H ((f1 ++ f2) ++ tf) := by
  have p : (fs.flatten ++ ((f1 ++ f2) ++ tf)).Perm (fs.flatten ++ (f2 ++ (f1 ++ tf))) := by
    refine List.Perm.append_left _ ?_
    rw [← List.append_assoc]
    exact List.perm_append_comm.append_right _
  exact ⟨G.le, G.lf, G.rep, p.nodup_iff.mpr G.nd, fun a ha => G.own a (p.mem_iff.mp ha), fun a ha => G.trk a (p.mem_iff.mp ha), G.fr, G.lk⟩
theorem sao_cons (ha : SO X W M1 a ca) (hr : SAO X W M2 es cs) (hs : starEach (a :: es) X.env = (false, eval a X.env) :: starEach es X.env := by rfl) : SAO X W (M1 ++ M2) (a :: es) (cCons ca cs) := by
  obtain ⟨t, p, q⟩ := ha.go
  obtain ⟨t2, p2, q2⟩ := hr.go
  refine ⟨tCons t t2, pa_cons p p2 hs, fun C fs env σ H tf Q hC G po => ?_⟩
  refine q C fs env σ H tf _ hC G ?_
  unfold cCons at po
  cases e1 : ca env with
  | err => rw [e1] at po; exact po
  | ex x env' =>
    rw [e1] at po
    exact fun cv dd fs' H' G' s => po cv dd fs' H' G' (s.weak (fun i hi => List.mem_append_left _ hi) fun _ z => z)
  | ok d env1 =>
    rw [e1] at po
    intro v fs1 H1 fp1 G1 s1 r1
    refine q2 C fs1 env1 σ H1 (fp1 ++ tf) _ hC G1 ?_
    have po' : PostAO W C (M1 ++ M2) tf fs env σ H Q ((cs env1).bind fun ds env => .ok (d :: ds) env) := po
    cases e2 : cs env1 with
    | err => rw [e2] at po'; exact po'
    | ex x env' =>
      rw [e2] at po'
      exact fun cv dd fs' H' G' s => po' cv dd fs' H' G'.drop (s1.trans (s.weak (fun _ z => z) fun x hx => List.mem_append_right _ hx))
    | ok ds env2 =>
      rw [e2] at po'
      intro vs fs2 H2 fp2 G2 s2 r2
      have po2 : ∀ vs fs' H' fp, Good C fs' env2 σ H' (fp ++ tf) → Step (M1 ++ M2) tf fs env H fs' env2 H' → Reps C H' (d :: ds) vs fp → Q vs H' := po'
      exact po2 (v :: vs) fs2 H2 (fp1 ++ fp2) G2.swap (s1.trans (s2.weak (fun _ z => z) fun x hx => List.mem_append_right _ hx)) ⟨v, vs, fp1, fp2, rfl, r1.keep (fun x hx => s2.t x (List.mem_append_left _ hx)) s2.m, r2, rfl⟩
def cTup (cs : CA) : CE := fun env => (cs env).bind fun ds env => if ds.length ≤ sizeLine then .ok (.tup ds) env else .err
def cLst (cs : CA) : CE := fun env => (cs env).bind fun ds env => if ds.length ≤ sizeLine then .ok (.lst .m ds) env else .err
theorem Good.new {fs : FPs} {env : Env} {tf : List Addr} {q : Addr} {o : HO} (G : Good C fs env σ H tf) (hq : H q = none) (mu : Mutb o) : Good C fs env σ (upd H q o) (q :: tf) :=
  G.grow (fp := [q]) (Le.new hq) (by simp) (fun a ha => by simp at ha; subst ha; exact hq) fun a ha => by simp at ha; subst ha; exact ⟨o, upd_same, mu⟩
theorem so_tup {kk} (h : SAO X W M es cs) : SO X W M (.Tuple es kk pos) (cTup cs) := by
  obtain ⟨t, p, q⟩ := h.go
  refine ⟨tTup t, pe_tup p, fun C fs env σ H tf Q hC G po => q C fs env σ H tf _ hC G ?_⟩
  unfold cTup at po
  cases e1 : cs env with
  | err => rw [e1] at po; exact po
  | ex x env' => rw [e1] at po; exact po
  | ok ds env' =>
    rw [e1] at po
    intro vs fs' H' fp G' s r
    have po' : PostO W C M tf fs env σ H Q (if ds.length ≤ sizeLine then .ok (.tup ds) env' else .err) := po
    by_cases hz : ds.length ≤ sizeLine
    · rw [if_pos hz] at po'
      refine ⟨by rw [← reps_length r]; exact hz, fun q hq => ?_⟩
      have le := Le.new (o := .tup vs) hq
      refine po' (.ref q) fs' _ fp (G'.le' le) ?_ ⟨q, vs, rfl, SqT.of upd_same, r.le le⟩
      have := s.trans (Step.grow (M := []) G'.drop le)
      simpa using this
    · rw [if_neg hz] at po'; exact po'.elim
theorem so_lst (h : SAO X W M es cs) : SO X W M (.List es pos) (cLst cs) := by
  obtain ⟨t, p, q⟩ := h.go
  refine ⟨tLst t, pe_lst p, fun C fs env σ H tf Q hC G po => q C fs env σ H tf _ hC G ?_⟩
  unfold cLst at po
  cases e1 : cs env with
  | err => rw [e1] at po; exact po
  | ex x env' => rw [e1] at po; exact po
  | ok ds env' =>
    rw [e1] at po
    intro vs fs' H' fp G' s r
    have po' : PostO W C M tf fs env σ H Q (if ds.length ≤ sizeLine then .ok (.lst .m ds) env' else .err) := po
    by_cases hz : ds.length ≤ sizeLine
    · rw [if_pos hz] at po'
      refine ⟨by rw [← reps_length r]; exact hz, fun q hq => ?_⟩
      have le := Le.new (o := .lst vs) hq
      refine po' (.ref q) fs' _ (q :: fp) (G'.new hq trivial) ?_ ⟨q, vs, [q], fp, rfl, ⟨upd_same, rfl⟩, r.le le, .inl rfl, rfl⟩
      have := s.trans (Step.grow (M := []) G'.drop le)
      simpa using this
    · rw [if_neg hz] at po'; exact po'.elim
end
end VS

set_option maxRecDepth 100000
namespace VS
open PySem L2 SeqAt

inductive O where
  | nx (e : Env)
  | rt (d : D) (e : Env)
  | bk (e : Env)
  | ct (e : Env)
  | ex (x : Exn) (e : Env)
  | err
abbrev CS := Env → O

structure StepS (M Vs : List Nat) (tf : List Addr) (fs : FPs) (env : Env) (σ : St) (H : Hp) (fs' : FPs) (env' : Env) (σ' : St) (H' : Hp) : Prop where
  s : Step M tf fs env H fs' env' H'
  v : ∀ i, i ∉ Vs → σ'[i]? = σ[i]?
theorem StepS.refl {M Vs tf fs env σ H} : StepS M Vs tf fs env σ H fs env σ H := ⟨.refl, fun _ _ => rfl⟩
theorem StepS.trans {M1 M2 V1 V2 tf fs env σ H fs1 env1 σ1 H1 fs2 env2 σ2 H2} (a : StepS M1 V1 tf fs env σ H fs1 env1 σ1 H1) (b : StepS M2 V2 tf fs1 env1 σ1 H1 fs2 env2 σ2 H2) : StepS (M1 ++ M2) (V1 ++ V2) tf fs env σ H fs2 env2 σ2 H2 :=
  ⟨a.s.trans b.s, fun i hi => by
    rw [List.mem_append, not_or] at hi
    exact (b.v i hi.2).trans (a.v i hi.1)⟩
theorem StepS.weak {M M' Vs Vs' tf tf' fs env σ H fs1 env1 σ1 H1} (a : StepS M Vs tf fs env σ H fs1 env1 σ1 H1) (h : ∀ i ∈ M, i ∈ M') (hv : ∀ i ∈ Vs, i ∈ Vs') (ht : ∀ x ∈ tf', x ∈ tf) : StepS M' Vs' tf' fs env σ H fs1 env1 σ1 H1 :=
  ⟨a.s.weak h ht, fun i hi => a.v i fun z => hi (hv i z)⟩
theorem Step.ss {M tf fs env H fs' env' H'} {σ : St} (a : Step M tf fs env H fs' env' H') : StepS M [] tf fs env σ H fs' env' σ H' := ⟨a, fun _ _ => rfl⟩

section
variable (W : WX) (C : Ctx)
def PostS (M Vs : List Nat) (tf : List Addr) (fs : FPs) (env : Env) (σ : St) (H : Hp) (E : Ends) : O → Prop
  | .nx env' => ∀ fs' σ' H', Good C fs' env' σ' H' tf → StepS M Vs tf fs env σ H fs' env' σ' H' → E.nx σ' H'
  | .rt d env' => ∀ v fs' σ' H' fp, Good C fs' env' σ' H' (fp ++ tf) → StepS M Vs tf fs env σ H fs' env' σ' H' → Rep C H' d v fp → E.rt v H'
  | .bk env' => ∀ fs' σ' H', Good C fs' env' σ' H' tf → StepS M Vs tf fs env σ H fs' env' σ' H' → E.bk σ' H'
  | .ct env' => ∀ fs' σ' H', Good C fs' env' σ' H' tf → StepS M Vs tf fs env σ H fs' env' σ' H' → E.ct σ' H'
  | .ex x env' => ∀ cv dd fs' σ' H', Good C fs' env' σ' H' tf → StepS M Vs tf fs env σ H fs' env' σ' H' → ExIs C x cv dd H' → W cv dd σ' H'
  | .err => False
def PostG (M Vs : List Nat) (tf : List Addr) (fs : FPs) (env : Env) (σ : St) (H : Hp) (Q : St → Hp → Prop) : Option Env → Prop
  | some env' => ∀ fs' σ' H', Good C fs' env' σ' H' tf → StepS M Vs tf fs env σ H fs' env' σ' H' → Q σ' H'
  | none => False
end
structure SS (X : Cx) (W : WX) (M Vs : List Nat) (st : Stmt) (c : CS) : Prop where
  go : ∃ t, PS X st t ∧ ∀ C fs env σ H tf E, C.At X → Good C fs env σ H tf → PostS W C M Vs tf fs env σ H E (c env) → t E σ H
structure SSs (X : Cx) (W : WX) (M Vs : List Nat) (sts : List Stmt) (c : CS) : Prop where
  go : ∃ t, PSs X sts t ∧ ∀ C fs env σ H tf E, C.At X → Good C fs env σ H tf → PostS W C M Vs tf fs env σ H E (c env) → t E σ H
/-- a target: it takes an owned value -/
structure SG (X : Cx) (M Vs : List Nat) (tg : Expr) (g : D → Env → Option Env) : Prop where
  go : ∃ t, PG X tg t ∧ ∀ C fs env σ H tf Q d v fp, C.At X → Good C fs env σ H (fp ++ tf) → Rep C H d v fp → PostG C M Vs tf fs env σ H Q (g d env) → t v σ H Q
structure SGs (X : Cx) (M Vs : List Nat) (tgs : List Expr) (g : List D → Env → Option Env) : Prop where
  go : ∃ t, PGs X tgs t ∧ ∀ C fs env σ H tf Q ds vs fp, C.At X → Good C fs env σ H (fp ++ tf) → Reps C H ds vs fp → PostG C M Vs tf fs env σ H Q (g ds env) → t vs σ H Q

section
variable {C : Ctx} {H H' : Hp} {fs fs' : FPs} {env env' : Env} {σ σ' : St} {tf fp own : List Addr} {M Rs : List Nat}
/-- an owned value goes into a slot -/
theorem Good.put {i : Nat} {d : D} {v : V} (G : Good C fs env σ H (fp ++ tf)) (r : Rep C H d v fp) : Good C (fs.set i fp) (env.set i (some d)) (σ.set i (some v)) H tf := by
  by_cases hi : i < σ.length
  case neg =>
    have h1 := G.le
    have h2 := G.lf
    rw [List.set_eq_of_length_le (by omega), List.set_eq_of_length_le (by omega), List.set_eq_of_length_le (by omega)]
    exact G.drop
  have hl : i < fs.length := by rw [G.lf]; exact hi
  have p1 := flat_set fs hl fp
  have p2 := flat_get fs hl
  have sub : ∀ a ∈ (fs.set i fp).flatten ++ tf, a ∈ fs.flatten ++ (fp ++ tf) := fun a ha => by
    rcases List.mem_append.mp ha with z | z
    · rcases List.mem_append.mp (p1.mem_iff.mp z) with z | z
      · simp [z]
      · have := p2.mem_iff.mpr (List.mem_append_right _ z)
        simp [this]
    · simp [z]
  refine ⟨by simpa using G.le, by simpa using G.lf, fun j d' e => ?_, ?_, fun a ha => G.own a (sub a ha), fun a ha => G.trk a (sub a ha), G.fr, G.lk⟩
  · rw [List.getElem?_set] at e
    by_cases hj : i = j
    · subst hj
      have hle : i < env.length := by rw [G.le]; exact hi
      simp [hle] at e; subst e
      refine ⟨v, by simp [hi], ?_⟩
      rw [getD_set fs i i fp hl, if_pos rfl]; exact r
    · rw [if_neg hj] at e
      obtain ⟨w, e1, r1⟩ := G.rep j d' e
      refine ⟨w, by rw [List.getElem?_set_ne hj]; exact e1, ?_⟩
      rw [getD_set fs i j fp hl, if_neg (Ne.symm hj)]; exact r1
  · have nd := G.nd
    have q : (fs.flatten ++ (fp ++ tf)).Perm (fs.getD i [] ++ ((fp ++ (fs.set i []).flatten) ++ tf)) := by
      refine (p2.append_right _).trans ?_
      rw [List.append_assoc]
      refine List.Perm.append_left _ ?_
      rw [← List.append_assoc]
      exact List.perm_append_comm.append_right _
    have nd2 := (List.nodup_append.mp (q.nodup_iff.mp nd)).2.1
    exact (p1.append_right tf).nodup_iff.mpr nd2
theorem Step.put {i : Nat} {d : D} (G : Good C fs env σ H (fp ++ tf)) : Step [i] tf fs env H (fs.set i fp) (env.set i (some d)) H := by
  refine ⟨fun _ _ => rfl, fun j hj => ?_, fun j hj => ?_, fun _ _ _ _ => rfl, .refl H⟩
  · rw [List.getD_eq_getElem?_getD, List.getElem?_set_ne (by intro z; subst z; simp at hj), List.getD_eq_getElem?_getD]
  · rw [List.getElem?_set, if_neg (by intro z; subst z; simp at hj)]
theorem StepS.put {i : Nat} {d : D} {v : V} (G : Good C fs env σ H (fp ++ tf)) : StepS [i] [i] tf fs env σ H (fs.set i fp) (env.set i (some d)) (σ.set i (some v)) H :=
  ⟨Step.put G, fun j hj => by rw [List.getElem?_set, if_neg (by intro z; subst z; simp at hj)]⟩
end

section
variable {X : Cx} {W : WX} {M M1 M2 M3 V1 V2 V3 Rs R1 R2 R3 : List Nat} {e a b c : Expr} {es : List Expr} {ca cb cc : CE} {cs : CA} {ct : CT} {pos p : Pos} {st : Stmt} {sts : List Stmt} {c1 c2' c3 : CS}
variable {pins : List (Addr × Obj)} {σ : St} {H : Hp} {s : Shared} {C : Ctx}

/-! ### blocks -/
def sNil : CS := fun env => .nx env
def O.bind (o : O) (f : CS) : O := match o with
  | .nx e => f e
  | o => o
def sSeq (c1 c2 : CS) : CS := fun env => (c1 env).bind c2
theorem ss_nil : SSs X W [] [] [] sNil := ⟨tNext, pss_nil, fun C fs env σ H tf E hC G po => po fs σ H G .refl⟩
theorem PostS.weak {tf fs env σ H E} {z : O} (h : ∀ i ∈ M1, i ∈ M2) (hv : ∀ i ∈ V1, i ∈ V2) (po : PostS W C M2 V2 tf fs env σ H E z) : PostS W C M1 V1 tf fs env σ H E z := by
  cases z with
  | nx env' => exact fun fs' σ' H' G s => po fs' σ' H' G (s.weak h hv fun _ z => z)
  | rt d env' => exact fun v fs' σ' H' fp G s r => po v fs' σ' H' fp G (s.weak h hv fun _ z => z) r
  | bk env' => exact fun fs' σ' H' G s => po fs' σ' H' G (s.weak h hv fun _ z => z)
  | ct env' => exact fun fs' σ' H' G s => po fs' σ' H' G (s.weak h hv fun _ z => z)
  | ex x env' => exact fun cv dd fs' σ' H' G s => po cv dd fs' σ' H' G (s.weak h hv fun _ z => z)
  | err => exact po
theorem PostS.step {tf fs env σ H E fs1 env1 σ1 H1} {z : O} (s1 : StepS M1 V1 tf fs env σ H fs1 env1 σ1 H1) (po : PostS W C (M1 ++ M2) (V1 ++ V2) tf fs env σ H E z) : PostS W C M2 V2 tf fs1 env1 σ1 H1 E z := by
  cases z with
  | nx env' => exact fun fs' σ' H' G s => po fs' σ' H' G (s1.trans s)
  | rt d env' => exact fun v fs' σ' H' fp G s r => po v fs' σ' H' fp G (s1.trans s) r
  | bk env' => exact fun fs' σ' H' G s => po fs' σ' H' G (s1.trans s)
  | ct env' => exact fun fs' σ' H' G s => po fs' σ' H' G (s1.trans s)
  | ex x env' => exact fun cv dd fs' σ' H' G s => po cv dd fs' σ' H' G (s1.trans s)
  | err => exact po
theorem mem_l {M1 M2 : List Nat} : ∀ i ∈ M1, i ∈ M1 ++ M2 := fun _ h => List.mem_append_left _ h
theorem mem_r {M1 M2 : List Nat} : ∀ i ∈ M2, i ∈ M1 ++ M2 := fun _ h => List.mem_append_right _ h
theorem post_seq {tf fs env σ H E} {f : CS} {z : O} (po : PostS W C (M1 ++ M2) (V1 ++ V2) tf fs env σ H E (z.bind f)) {K : Ends} (hr : K.rt = E.rt) (hb : K.bk = E.bk) (hc : K.ct = E.ct)
    (hn : ∀ env1, z = .nx env1 → ∀ fs1 σ1 H1, Good C fs1 env1 σ1 H1 tf → StepS M1 V1 tf fs env σ H fs1 env1 σ1 H1 → PostS W C M2 V2 tf fs1 env1 σ1 H1 E (f env1) → K.nx σ1 H1) : PostS W C M1 V1 tf fs env σ H K z := by
  cases z with
  | nx env1 => exact fun fs1 σ1 H1 G1 s1 => hn env1 rfl fs1 σ1 H1 G1 s1 (PostS.step s1 po)
  | rt d env' => show ∀ v fs' σ' H' fp, _ → _ → _ → K.rt v H'; rw [hr]; exact PostS.weak mem_l mem_l (z := .rt d env') po
  | bk env' => show ∀ fs' σ' H', _ → _ → K.bk σ' H'; rw [hb]; exact PostS.weak mem_l mem_l (z := .bk env') po
  | ct env' => show ∀ fs' σ' H', _ → _ → K.ct σ' H'; rw [hc]; exact PostS.weak mem_l mem_l (z := .ct env') po
  | ex x env' => exact PostS.weak mem_l mem_l (z := .ex x env') po
  | err => exact po
theorem ss_cons (h1 : SS X W M1 V1 st c1) (h2 : SSs X W M2 V2 sts c2') : SSs X W (M1 ++ M2) (V1 ++ V2) (st :: sts) (sSeq c1 c2') := by
  obtain ⟨t, p, q⟩ := h1.go
  obtain ⟨t2, p2, q2⟩ := h2.go
  refine ⟨tSeq t t2, pss_cons p p2, fun C fs env σ H tf E hC G po => ?_⟩
  refine q C fs env σ H tf _ hC G ?_
  exact post_seq (f := c2') po rfl rfl rfl fun env1 _ fs1 σ1 H1 G1 s1 po1 => q2 C fs1 env1 σ1 H1 tf E hC G1 po1
theorem ss_one (h1 : SS X W M1 V1 st c1) : SSs X W M1 V1 [st] c1 := by
  obtain ⟨t, p, q⟩ := h1.go
  exact ⟨t, pss_one p, q⟩
/-- a slot is dropped -/
def sKill (i : Nat) (c : CS) : CS := fun env => c (env.set i none)
theorem Good.kill {fs env tf} (G : Good C fs env σ H tf) (i : Nat) : Good C (fs.set i []) (env.set i none) σ H tf := by
  refine ⟨by simpa using G.le, by simpa using G.lf, fun j d' e => ?_, ?_, fun a ha => G.own a ?_, fun a ha => G.trk a ?_, G.fr, G.lk⟩
  · rw [List.getElem?_set] at e
    by_cases hj : i = j
    · subst hj; simp at e
    · rw [if_neg hj] at e
      obtain ⟨v, e1, r⟩ := G.rep j d' e
      refine ⟨v, e1, ?_⟩
      have : (fs.set i []).getD j [] = fs.getD j [] := by
        rw [List.getD_eq_getElem?_getD, List.getElem?_set_ne hj, List.getD_eq_getElem?_getD]
      rw [this]; exact r
  · by_cases hi : i < fs.length
    · have q := (flat_get fs hi).append_right tf
      have := q.nodup_iff.mp G.nd
      rw [List.append_assoc] at this
      exact (List.nodup_append.mp this).2.1
    · rw [List.set_eq_of_length_le (by omega)]; exact G.nd
  all_goals
    rcases List.mem_append.mp ha with z | z
    · by_cases hi : i < fs.length
      · exact List.mem_append_left _ ((flat_get fs hi).mem_iff.mpr (List.mem_append_right _ z))
      · rw [List.set_eq_of_length_le (by omega)] at z; exact List.mem_append_left _ z
    · exact List.mem_append_right _ z
theorem Step.kill {fs : FPs} {env : Env} {tf} (i : Nat) : Step [i] tf fs env H (fs.set i []) (env.set i none) H := by
  refine ⟨fun _ _ => rfl, fun j hj => ?_, fun j hj => ?_, fun _ _ _ _ => rfl, .refl H⟩
  · have hj' : i ≠ j := fun z => by subst z; simp at hj
    rw [List.getD_eq_getElem?_getD, List.getElem?_set_ne hj', List.getD_eq_getElem?_getD]
  · rw [List.getElem?_set, if_neg (by intro z; subst z; simp at hj)]
theorem ss_kill (i : Nat) (h : SSs X W M V1 sts c1) : SSs X W ([i] ++ M) V1 sts (sKill i c1) := by
  obtain ⟨t, p, q⟩ := h.go
  refine ⟨t, p, fun C fs env σ H tf E hC G po => q C _ _ σ H tf E hC (G.kill i) ?_⟩
  exact PostS.step (M1 := [i]) (V1 := []) (M2 := M) (V2 := V1) ⟨Step.kill i, fun _ _ => rfl⟩ po
def sKills (is : List Nat) (c : CS) : CS := fun env => c (is.foldl (fun env i => env.set i none) env)
theorem ss_kills (is : List Nat) (h : SSs X W M V1 sts c1) : SSs X W (is ++ M) V1 sts (sKills is c1) := by
  induction is with
  | nil => exact h
  | cons i is ih => exact ss_kill i ih

/-! ### small statements -/
def sExpr (c : CE) : CS := fun env => match c env with
  | .ok _ env => .nx env
  | .ex x env => .ex x env
  | .err => .err
theorem ss_expr (h : SB X W M Rs e ca) (hs : swapsWith e none pos.line X.env = pure false := by rfl) : SS X W M [] (.Expr e pos) (sExpr ca) := by
  obtain ⟨t, p, q⟩ := h.go
  refine ⟨tDrop t, ps_expr p hs, fun C fs env σ H tf E hC G po => q C fs env σ H tf _ hC G ?_⟩
  unfold sExpr at po
  cases e1 : ca env with
  | err => rw [e1] at po; exact po
  | ex x env' => rw [e1] at po; exact fun cv dd fs' H' G' s => po cv dd fs' σ H' G' s.ss
  | ok d env' => rw [e1] at po; exact fun v fs' H' fp own G' s r i => po fs' σ H' G'.drop s.ss
def sRet (c : CE) : CS := fun env => match c env with
  | .ok d env => .rt d env
  | .ex x env => .ex x env
  | .err => .err
theorem ss_ret (h : SO X W M e ca) : SS X W M [] (.Return (some e) pos) (sRet ca) := by
  obtain ⟨t, p, q⟩ := h.go
  refine ⟨tRet t, ps_ret p, fun C fs env σ H tf E hC G po => q C fs env σ H tf _ hC G ?_⟩
  unfold sRet at po
  cases e1 : ca env with
  | err => rw [e1] at po; exact po
  | ex x env' => rw [e1] at po; exact fun cv dd fs' H' G' s => po cv dd fs' σ H' G' s.ss
  | ok d env' => rw [e1] at po; exact fun v fs' H' fp G' s r => po v fs' σ H' fp G' s.ss r
theorem ss_retN : SS X W [] [] (.Return none pos) (fun env => .rt .non env) :=
  ⟨tRetN, ps_retN, fun C fs env σ H tf E hC G po => po .non fs σ H [] (by simpa using G) .refl ⟨rfl, rfl⟩⟩
theorem ss_pass : SS X W [] [] (.Pass pos) sNil := ⟨tNext, ps_pass, fun C fs env σ H tf E hC G po => po fs σ H G .refl⟩
theorem ss_break : SS X W [] [] (.Break pos) (fun env => .bk env) := ⟨tBreak, ps_break, fun C fs env σ H tf E hC G po => po fs σ H G .refl⟩
theorem ss_continue : SS X W [] [] (.Continue pos) (fun env => .ct env) := ⟨tCont, ps_continue, fun C fs env σ H tf E hC G po => po fs σ H G .refl⟩
theorem ss_doc {x j pos'} : SS X W [] [] (.Expr (.Constant (.str x) j pos) pos') sNil := ⟨tNext, ps_doc, fun C fs env σ H tf E hC G po => po fs σ H G .refl⟩
def sIf (ct : CT) (c1 c2 : CS) : CS := fun env => match ct env with
  | .ok k env => if k = true then c1 env else c2 env
  | .ex x env => .ex x env
  | .err => .err
theorem ss_if {sa sb : List Stmt} (hc : ST X W M1 c ct) (ha : SSs X W M2 V2 sa c1) (hb : SSs X W M3 V3 sb c2') : SS X W (M1 ++ (M2 ++ M3)) (V2 ++ V3) (.If c sa sb pos) (sIf ct c1 c2') := by
  obtain ⟨t, p, q⟩ := hc.go
  obtain ⟨t2, p2, q2⟩ := ha.go
  obtain ⟨t3, p3, q3⟩ := hb.go
  refine ⟨tIfS t t2 t3, ps_if p p2 p3, fun C fs env σ H tf E hC G po => q C fs env σ H tf _ hC G ?_⟩
  unfold sIf at po
  cases e1 : ct env with
  | err => rw [e1] at po; exact po
  | ex x env' => rw [e1] at po; exact fun cv dd fs' H' G' s => po cv dd fs' σ H' G' (s.ss.weak mem_l (fun _ z => nomatch z) fun _ z => z)
  | ok k env1 =>
    rw [e1] at po
    intro fs1 H1 G1 s1
    have po1 : PostS W C (M1 ++ (M2 ++ M3)) ([] ++ (V2 ++ V3)) tf fs env σ H E (if k = true then c1 env1 else c2' env1) := po
    have po2 := PostS.step s1.ss po1
    cases k with
    | true => exact q2 C fs1 env1 σ H1 tf E hC G1 (PostS.weak mem_l mem_l po2)
    | false => exact q3 C fs1 env1 σ H1 tf E hC G1 (PostS.weak mem_r mem_r po2)

/-! ### targets -/
def gSet (i : Nat) : D → Env → Option Env := fun d env => some (env.set i (some d))
theorem sg_name (i : Nat) {x : Str} (hN : X.N.Nodup) (hi : X.N[i]? = some x := by rfl) (hx : Loc X.env.scope x := by first | exact .inl rfl | exact .inr rfl) (hf : X.fn x = true ∨ X.env.scope.names.lookup x = some .local := by first | exact .inl rfl | exact .inr rfl | assumption) : SG X [i] [i] (.Name x pos) (gSet i) :=
  ⟨gName i, pg_name hN hi hx hf, fun C fs env σ H tf Q d v fp hC G r po => po _ _ _ (G.put r) (StepS.put G)⟩
def gNilD : List D → Env → Option Env
  | [], env => some env
  | _, _ => none
def gConsD (g : D → Env → Option Env) (gs : List D → Env → Option Env) : List D → Env → Option Env
  | d :: ds, env => (g d env).bind fun env => gs ds env
  | _, _ => none
theorem sgs_nil : SGs X [] [] [] gNilD := by
  refine ⟨gNil, pgs_nil, fun C fs env σ H tf Q ds vs fp hC G r po => ?_⟩
  cases ds with
  | nil => obtain ⟨rfl, rfl⟩ := r; exact ⟨rfl, po fs σ H G.drop .refl⟩
  | cons d ds => exact po.elim
theorem sgs_cons {t : Expr} {ts : List Expr} {g : D → Env → Option Env} {gs : List D → Env → Option Env} (h1 : SG X M1 V1 t g) (h2 : SGs X M2 V2 ts gs)
    (hs : (assignEach (t :: ts) X.env).map (·.2) = assign t X.env :: (assignEach ts X.env).map (·.2) := by rfl) : SGs X (M1 ++ M2) (V1 ++ V2) (t :: ts) (gConsD g gs) := by
  obtain ⟨t1, p1, q1⟩ := h1.go
  obtain ⟨t2, p2, q2⟩ := h2.go
  refine ⟨gCons t1 t2, pgs_cons p1 p2 hs, fun C fs env σ H tf Q ds vs fp hC G r po => ?_⟩
  cases ds with
  | nil => exact po.elim
  | cons d ds =>
    obtain ⟨v, vs', f1, f2, rfl, r1, r2, rfl⟩ := r
    refine ⟨v, vs', rfl, ?_⟩
    have po' : PostG C (M1 ++ M2) (V1 ++ V2) tf fs env σ H Q ((g d env).bind fun env => gs ds env) := po
    refine q1 C fs env σ H (f2 ++ tf) _ d v f1 hC (by rw [← List.append_assoc]; exact G) r1 ?_
    cases e1 : g d env with
    | none => rw [e1] at po'; exact po'.elim
    | some env1 =>
      rw [e1] at po'
      intro fs1 σ1 H1 G1 s1
      refine q2 C fs1 env1 σ1 H1 tf Q ds vs' f2 hC G1 (r2.keep (fun a ha => s1.s.t a (List.mem_append_left _ ha)) s1.s.m) ?_
      have po2 : PostG C (M1 ++ M2) (V1 ++ V2) tf fs env σ H Q (gs ds env1) := po'
      have w1 := s1.weak (fun _ z => z) (fun _ z => z) (tf' := tf) fun x hx => List.mem_append_right _ hx
      cases e2 : gs ds env1 with
      | none => rw [e2] at po2; exact po2.elim
      | some env2 =>
        rw [e2] at po2
        exact fun fs2 σ2 H2 G2 s2 => po2 fs2 σ2 H2 G2 (w1.trans s2)
def gTupD (n : Nat) (gs : List D → Env → Option Env) : D → Env → Option Env
  | .tup ds, env => if ds.length = n then gs ds env else none
  | _, _ => none
theorem sg_tup {ts : List Expr} {k : Nat} {gs : List D → Env → Option Env} (hc : X.calm = true) (h : SGs X M V1 ts gs) (hst : (assignEach ts X.env).findIdx? (·.1) = none := by rfl) :
    SG X M V1 (.Tuple ts k pos) (gTupD (assignEach ts X.env).length gs) := by
  obtain ⟨t, p, q⟩ := h.go
  refine ⟨gTup X.K (assignEach ts X.env).length t, pg_tup hc p rfl hst, fun C fs env σ H tf Q d v fp hC G r po => ?_⟩
  cases d with
  | tup ds =>
    obtain ⟨a, vs, rfl, hq, rs⟩ := rep_tup hC r
    have po' : PostG C M V1 tf fs env σ H Q (if ds.length = (assignEach ts X.env).length then gs ds env else none) := po
    by_cases hl : ds.length = (assignEach ts X.env).length
    · rw [if_pos hl] at po'
      exact ⟨a, vs, rfl, hq, by rw [← reps_length rs]; exact hl, q C fs env σ H tf Q ds vs fp hC G rs po'⟩
    · rw [if_neg hl] at po'; exact po'.elim
  | _ => exact po.elim

/-! ### assignments -/
def sAsg (c : CE) (g : D → Env → Option Env) : CS := fun env => match c env with
  | .ok d env => match g d env with
    | some env => .nx env
    | none => .err
  | .ex x env => .ex x env
  | .err => .err
theorem asg_go {t : TE} {g : TG} {gd : D → Env → Option Env} {tf fs env E} (hC : C.At X) (G : Good C fs env σ H tf)
    (q : ∀ C fs env σ H tf Q, C.At X → Good C fs env σ H tf → PostO W C M1 tf fs env σ H Q (ca env) → t σ H Q)
    (qg : ∀ C fs env σ H tf Q d v fp, C.At X → Good C fs env σ H (fp ++ tf) → Rep C H d v fp → PostG C M2 V2 tf fs env σ H Q (gd d env) → g v σ H Q)
    (po : PostS W C (M1 ++ M2) V2 tf fs env σ H E (sAsg ca gd env)) : t σ H fun x H1 => g x σ H1 E.nx := by
  refine q C fs env σ H tf _ hC G ?_
  unfold sAsg at po
  cases e1 : ca env with
  | err => rw [e1] at po; exact po
  | ex x env' => rw [e1] at po; exact fun cv dd fs' H' G' s => po cv dd fs' σ H' G' (s.ss.weak mem_l (fun _ z => nomatch z) fun _ z => z)
  | ok d env1 =>
    rw [e1] at po
    intro v fs1 H1 fp G1 s1 r1
    refine qg C fs1 env1 σ H1 tf _ d v fp hC G1 r1 ?_
    have po' : PostS W C (M1 ++ M2) V2 tf fs env σ H E (match gd d env1 with
      | some env => .nx env
      | none => .err) := po
    cases e2 : gd d env1 with
    | none => rw [e2] at po'; exact po'
    | some env2 =>
      rw [e2] at po'
      exact fun fs2 σ2 H2 G2 s2 => po' fs2 σ2 H2 G2 (s1.ss.trans s2)
theorem ss_set (i : Nat) {x : Str} {pos' : Pos} (hN : X.N.Nodup) (h : SO X W M e ca) (hi : X.N[i]? = some x := by rfl) (hx : Loc X.env.scope x := by first | exact .inl rfl | exact .inr rfl) (hs : swapsWith e (some (.Name x pos')) pos.line X.env = pure false := by rfl) (hf : X.fn x = true ∨ X.env.scope.names.lookup x = some .local := by first | exact .inl rfl | exact .inr rfl | assumption) :
    SS X W (M ++ [i]) [i] (.Assign [.Name x pos'] e pos) (sAsg ca (gSet i)) := by
  obtain ⟨t, p, q⟩ := h.go
  refine ⟨tAsg t (gName i), ps_set hN hi hx p hs hf, fun C fs env σ H tf E hC G po => ?_⟩
  exact asg_go (gd := gSet i) (M2 := [i]) (V2 := [i]) hC G q (fun C fs env σ H tf Q d v fp hC G r po => po _ _ _ (G.put r) (StepS.put G)) po
theorem ss_asg {tg : Expr} {g : D → Env → Option Env} (h : SO X W M e ca) (hg : SG X M2 V2 tg g) (hs : swapsWithSole [tg] e pos.line X.env = pure false := by rfl) (hw : swappedStores [tg] e X.env = pure none := by rfl)
    (h1 : (assignEach [tg] X.env).map (·.2) = [assign tg X.env] := by rfl) : SS X W (M ++ M2) V2 (.Assign [tg] e pos) (sAsg ca g) := by
  obtain ⟨t, p, q⟩ := h.go
  obtain ⟨t2, p2, q2⟩ := hg.go
  refine ⟨tAsg t t2, ps_asg p p2 hs hw h1, fun C fs env σ H tf E hC G po => ?_⟩
  exact asg_go (gd := g) (M2 := M2) (V2 := V2) hC G q q2 po
/-- a, b = x, y with plain names -/
def sPar (i j : Nat) (cs : CA) : CS := fun env => match cs env with
  | .ok [d, e] env => .nx ((env.set i (some d)).set j (some e))
  | .ok _ _ => .err
  | .ex x env => .ex x env
  | .err => .err
theorem ss_par (i j : Nat) {x y : Str} {px py pt : Pos} {kt k2 pt2} (hc : X.calm = true) (hN : X.N.Nodup) (ha : SAO X W M [a, b] cs) (hi : X.N[i]? = some x := by rfl) (hj : X.N[j]? = some y := by rfl) (hij : i ≠ j := by decide)
    (hx : X.env.scope.names.lookup x = some .local := by rfl) (hy : X.env.scope.names.lookup y = some .local := by rfl)
    (hw : swappedStores [.Tuple [.Name x px, .Name y py] kt pt] (.Tuple [a, b] k2 pt2) X.env = pure (some [x, y]) := by rfl)
    (hs : swapsWithSole [.Tuple [.Name x px, .Name y py] kt pt] (.Tuple [a, b] k2 pt2) pos.line X.env = pure false := by rfl) :
    SS X W (M ++ ([i] ++ [j])) ([i] ++ [j]) (.Assign [.Tuple [.Name x px, .Name y py] kt pt] (.Tuple [a, b] k2 pt2) pos) (sPar i j cs) := by
  obtain ⟨t, p, q⟩ := ha.go
  refine ⟨tPar i j t, ps_par hc hN hi hj hij hx hy p hw hs, fun C fs env σ H tf E hC G po => q C fs env σ H tf _ hC G ?_⟩
  unfold sPar at po
  cases e1 : cs env with
  | err => rw [e1] at po; exact po
  | ex x env' => rw [e1] at po; exact fun cv dd fs' H' G' s => po cv dd fs' σ H' G' (s.ss.weak mem_l (fun _ z => nomatch z) fun _ z => z)
  | ok ds env1 =>
    rw [e1] at po
    intro vs fs1 H1 fp G1 s1 r1
    match ds, r1, po with
    | [], _, po => exact po.elim
    | [_], _, po => exact po.elim
    | _ :: _ :: _ :: _, _, po => exact po.elim
    | [d, d2], r1, po =>
      obtain ⟨v, w, f1, f2, rfl, ra, r2, rfl⟩ := reps2 r1
      refine ⟨v, w, rfl, ?_⟩
      have G1' : Good C fs1 env1 σ H1 (f1 ++ (f2 ++ tf)) := by rw [← List.append_assoc]; exact G1
      have Ga := G1'.put (i := i) ra
      have Gb := Ga.put (i := j) r2
      have sa := StepS.put (i := i) (d := d) (v := v) G1'
      have sb := StepS.put (i := j) (d := d2) (v := w) Ga
      refine po _ _ _ Gb ?_
      exact s1.ss.trans ((sa.weak (fun _ z => z) (fun _ z => z) fun x hx => List.mem_append_right _ hx).trans sb)
end
end VS

set_option maxRecDepth 100000
namespace VS
open PySem L2 SeqAt
/-- what a walk gives: its items, while the nodes fp stand -/
structure SrcOk (C : Ctx) (J : It) (ds : List D) (fp : List Addr) (H1 : Hp) : Prop where
  walk : Walk J ds.length (fun H => Fr C H ∧ Mono H1 H ∧ ∀ a ∈ fp, H a = H1 a) (fun i H x H' => Le H H' ∧ ∃ d, ds[i]? = some d ∧ Rep C H' d x [])
def PostI (W : WX) (C : Ctx) (M Rs : List Nat) (tf : List Addr) (fs : FPs) (env : Env) (σ : St) (H : Hp) (Q : It → Hp → Prop) : R (List D) → Prop
  | .ok ds env' => ∀ J fs' H' fp own, Good C fs' env' σ H' (own ++ tf) → Step M tf fs env H fs' env' H' → SrcOk C J ds fp H' → In Rs own fs' fp → Q J H'
  | .ex x env' => ∀ cv dd fs' H', Good C fs' env' σ H' tf → Step M tf fs env H fs' env' H' → ExIs C x cv dd H' → W cv dd σ H'
  | .err => False
structure SI (X : Cx) (W : WX) (M Rs : List Nat) (tg e : Expr) (c : CA) : Prop where
  go : ∃ t, PI X tg e t ∧ ∀ C fs env σ H tf Q, C.At X → Good C fs env σ H tf → PostI W C M Rs tf fs env σ H Q (c env) → t σ H Q
def forRun (g : D → Env → Option Env) (body : CS) : List D → Env → O
  | [], env => .nx env
  | d :: ds, env => match g d env with
    | none => .err
    | some env1 => match body env1 with
      | .nx env2 => forRun g body ds env2
      | .ct env2 => forRun g body ds env2
      | .bk env2 => .nx env2
      | o => o
def sFor (src : CA) (g : D → Env → Option Env) (body : CS) : CS := fun env => match src env with
  | .ok ds env => forRun g body ds env
  | .ex x env => .ex x env
  | .err => .err
def whRun (ct : CT) (body : CS) : Nat → Env → O
  | 0, _ => .err
  | n + 1, env => match ct env with
    | .ok true env1 => match body env1 with
      | .nx env2 => whRun ct body n env2
      | .ct env2 => whRun ct body n env2
      | .bk env2 => .nx env2
      | o => o
    | .ok false env1 => .nx env1
    | .ex x env => .ex x env
    | .err => .err
def sWhile (μ : Env → Nat) (ct : CT) (body : CS) : CS := fun env => whRun ct body (μ env) env

section
variable {X : Cx} {W : WX} {M M1 M2 M3 V1 V2 V3 Rs R1 R2 R3 : List Nat} {e a b c tg : Expr} {es : List Expr} {ca cb cc : CE} {cs src : CA} {ct : CT} {pos p : Pos} {st : Stmt} {sts body : List Stmt} {c1 c2' c3 cb' : CS} {g : D → Env → Option Env}
variable {pins : List (Addr × Obj)} {σ : St} {H : Hp} {s : Shared} {C : Ctx}

theorem ss_for (hp : PassesOwn (model X.prog X.w) X.A X.env X.xe) (hc : X.calm = true) (hi : SI X W M1 R1 tg e src) (hg : SG X M2 V2 tg g) (hb : SSs X W M3 V3 body cb')
    (hd : djB R1 (M2 ++ M3) = true := by decide) (hs : ∀ x, foldedSetIterable e X.env x = pure x := by intro _; rfl) : SS X W (M1 ++ (M2 ++ M3)) (V2 ++ V3) (.For tg e body [] pos) (sFor src g cb') := by
  obtain ⟨t, p, q⟩ := hi.go
  obtain ⟨t2, p2, q2⟩ := hg.go
  obtain ⟨t3, p3, q3⟩ := hb.go
  refine ⟨tFor t t2 t3, ps_for hp hc p p2 p3 hs, fun C fs env σ H tf E hC G po => ?_⟩
  show t σ H fun J H1 => _
  refine q C fs env σ H tf _ hC G ?_
  unfold sFor at po
  cases e1 : src env with
  | err => rw [e1] at po; exact po
  | ex x env' => rw [e1] at po; exact fun cv dd fs' H' G' s => po cv dd fs' σ H' G' (s.ss.weak mem_l (fun _ z => nomatch z) fun _ z => z)
  | ok ds env1 =>
    rw [e1] at po
    intro J fs1 H1 fp own G1 s1 src1 i1
    have po1 : PostS W C (M1 ++ (M2 ++ M3)) ([] ++ (V2 ++ V3)) tf fs env σ H E (forRun g cb' ds env1) := po
    have po2 := PostS.step s1.ss po1
    have dj := djB_ok hd
    refine for_it (n := ds.length) src1.walk (fun i σ' H' => ∃ fs' env', Good C fs' env' σ' H' (own ++ tf) ∧ StepS (M2 ++ M3) (V2 ++ V3) (own ++ tf) fs1 env1 σ H1 fs' env' σ' H' ∧ PostS W C (M2 ++ M3) (V2 ++ V3) tf fs1 env1 σ H1 E (forRun g cb' (ds.drop i) env'))
      ⟨fs1, env1, G1, .refl, by simpa using po2⟩ ?_ ?_ ?_
    · rintro i σ' H' hi ⟨fs', env', G', s', _⟩
      exact ⟨G'.fr, s'.s.m, i1.keep s'.s dj⟩
    · rintro i x σ' H' H2 hi ⟨fs', env', G', s', po'⟩ ⟨le, d, hd', rd⟩
      have hdrop : ds.drop i = d :: ds.drop (i + 1) := by
        rw [List.drop_eq_getElem_cons hi]
        have := List.getElem?_eq_some_iff.mp hd'
        obtain ⟨_, h⟩ := this
        rw [h]
      rw [hdrop] at po'
      have G2 := G'.le' le
      have s2 := s'.trans (Step.grow (M := []) G' le).ss
      have s2 : StepS (M2 ++ M3) (V2 ++ V3) (own ++ tf) fs1 env1 σ H1 fs' env' σ' H2 := by simpa using s2
      have po3 : PostS W C (M2 ++ M3) (V2 ++ V3) tf fs1 env1 σ H1 E (match g d env' with
        | none => .err
        | some env1 => match cb' env1 with
          | .nx env2 => forRun g cb' (ds.drop (i + 1)) env2
          | .ct env2 => forRun g cb' (ds.drop (i + 1)) env2
          | .bk env2 => .nx env2
          | o => o) := po'
      refine q2 C fs' env' σ' H2 (own ++ tf) _ d x [] hC (by simpa using G2) rd ?_
      cases eg : g d env' with
      | none => rw [eg] at po3; exact po3.elim
      | some env3 =>
        rw [eg] at po3
        intro fs3 σ3 H3 G3 s3
        refine q3 C fs3 env3 σ3 H3 (own ++ tf) _ hC G3 ?_
        have po4 : PostS W C (M2 ++ M3) (V2 ++ V3) tf fs1 env1 σ H1 E (match cb' env3 with
          | .nx env2 => forRun g cb' (ds.drop (i + 1)) env2
          | .ct env2 => forRun g cb' (ds.drop (i + 1)) env2
          | .bk env2 => .nx env2
          | o => o) := po3
        have s3' : StepS (M2 ++ M3) (V2 ++ V3) (own ++ tf) fs1 env1 σ H1 fs3 env3 σ3 H3 := (s2.trans (s3.weak mem_l mem_l (M' := M2 ++ M3) (Vs' := V2 ++ V3) fun _ z => z)).weak (fun i hi => (List.mem_append.mp hi).elim id id) (fun i hi => (List.mem_append.mp hi).elim id id) fun _ z => z
        have comp : ∀ {fs4 env4 σ4 H4}, StepS M3 V3 (own ++ tf) fs3 env3 σ3 H3 fs4 env4 σ4 H4 → StepS (M2 ++ M3) (V2 ++ V3) (own ++ tf) fs1 env1 σ H1 fs4 env4 σ4 H4 := fun {fs4 env4 σ4 H4} s4 =>
          (s3'.trans (s4.weak (M' := M2 ++ M3) (Vs' := V2 ++ V3) mem_r mem_r fun _ z => z)).weak (fun i hi => (List.mem_append.mp hi).elim id id) (fun i hi => (List.mem_append.mp hi).elim id id) fun _ z => z
        have tfw : ∀ {fs4 env4 σ4 H4}, StepS M3 V3 (own ++ tf) fs3 env3 σ3 H3 fs4 env4 σ4 H4 → StepS (M2 ++ M3) (V2 ++ V3) tf fs1 env1 σ H1 fs4 env4 σ4 H4 := fun {fs4 env4 σ4 H4} s4 => (comp s4).weak (fun _ z => z) (fun _ z => z) fun x hx => List.mem_append_right _ hx
        cases eb : cb' env3 with
        | nx env4 =>
          rw [eb] at po4
          exact fun fs4 σ4 H4 G4 s4 => ⟨fs4, env4, G4, comp s4, po4⟩
        | ct env4 =>
          rw [eb] at po4
          exact fun fs4 σ4 H4 G4 s4 => ⟨fs4, env4, G4, comp s4, po4⟩
        | bk env4 =>
          rw [eb] at po4
          exact fun fs4 σ4 H4 G4 s4 => po4 fs4 σ4 H4 G4.drop (tfw s4)
        | rt d4 env4 =>
          rw [eb] at po4
          intro v fs4 σ4 H4 fp4 G4 s4 r4
          refine po4 v fs4 σ4 H4 fp4 (G4.sub ?_) (tfw s4) r4
          exact (List.Sublist.refl _).append (List.sublist_append_right _ _)
        | ex x4 env4 =>
          rw [eb] at po4
          exact fun cv dd fs4 σ4 H4 G4 s4 => po4 cv dd fs4 σ4 H4 G4.drop (tfw s4)
        | err => rw [eb] at po4; exact po4
    · rintro σ' H' ⟨fs', env', G', s', po'⟩
      rw [List.drop_length] at po'
      exact po' fs' σ' H' G'.drop (s'.weak (fun _ z => z) (fun _ z => z) fun x hx => List.mem_append_right _ hx)

theorem ss_while (μ : Env → Nat) (hp : PassesOwn (model X.prog X.w) X.A X.env X.xe) (hc : ST X W M1 c ct) (hb : SSs X W M2 V2 body cb') : SS X W (M1 ++ M2) V2 (.While c body [] pos) (sWhile μ ct cb') := by
  obtain ⟨t, p, q⟩ := hc.go
  obtain ⟨t3, p3, q3⟩ := hb.go
  refine ⟨tWhile t t3, ps_while hp p p3, fun C fs env σ H tf E hC G po => ?_⟩
  refine ⟨fun m σ' H' => ∃ fs' env', Good C fs' env' σ' H' tf ∧ StepS (M1 ++ M2) V2 tf fs env σ H fs' env' σ' H' ∧ PostS W C (M1 ++ M2) V2 tf fs env σ H E (whRun ct cb' m env'), ⟨μ env, fs, env, G, .refl, po⟩, ?_⟩
  rintro m σ' H' ⟨fs', env', G', s', po'⟩
  cases m with
  | zero => exact po'.elim
  | succ m =>
    refine q C fs' env' σ' H' tf _ hC G' ?_
    have po1 : PostS W C (M1 ++ M2) V2 tf fs env σ H E (match ct env' with
      | .ok true env1 => match cb' env1 with
        | .nx env2 => whRun ct cb' m env2
        | .ct env2 => whRun ct cb' m env2
        | .bk env2 => .nx env2
        | o => o
      | .ok false env1 => .nx env1
      | .ex x env => .ex x env
      | .err => .err) := po'
    have comp1 : ∀ {fs4 env4 H4}, Step M1 tf fs' env' H' fs4 env4 H4 → StepS (M1 ++ M2) V2 tf fs env σ H fs4 env4 σ' H4 := fun {fs4 env4 H4} s4 =>
      (s'.trans (s4.ss.weak (M' := M1 ++ M2) (Vs' := V2) mem_l (fun _ z => nomatch z) fun _ z => z)).weak (fun i hi => (List.mem_append.mp hi).elim id id) (fun i hi => (List.mem_append.mp hi).elim id id) fun _ z => z
    cases e1 : ct env' with
    | err => rw [e1] at po1; exact po1
    | ex x env1 => rw [e1] at po1; exact fun cv dd fs1 H1 G1 s1 => po1 cv dd fs1 σ' H1 G1 (comp1 s1)
    | ok k env1 =>
      intro fs1 H1 G1 s1
      rw [e1] at po1
      cases k with
      | false => exact po1 fs1 σ' H1 G1 (comp1 s1)
      | true =>
        refine ⟨fun σ3 H3 => ∃ fs3 env3, Good C fs3 env3 σ3 H3 tf ∧ StepS (M1 ++ M2) V2 tf fs env σ H fs3 env3 σ3 H3 ∧ PostS W C (M1 ++ M2) V2 tf fs env σ H E (whRun ct cb' m env3), fun σ3 H3 h => ⟨m, Nat.lt_succ_self m, h⟩, ?_⟩
        refine q3 C fs1 env1 σ' H1 tf _ hC G1 ?_
        have s1' := comp1 s1
        have comp : ∀ {fs4 env4 σ4 H4}, StepS M2 V2 tf fs1 env1 σ' H1 fs4 env4 σ4 H4 → StepS (M1 ++ M2) V2 tf fs env σ H fs4 env4 σ4 H4 := fun {fs4 env4 σ4 H4} s4 =>
          (s1'.trans (s4.weak (M' := M1 ++ M2) (Vs' := V2) mem_r (fun _ z => z) fun _ z => z)).weak (fun i hi => (List.mem_append.mp hi).elim id id) (fun i hi => (List.mem_append.mp hi).elim id id) fun _ z => z
        have po2 : PostS W C (M1 ++ M2) V2 tf fs env σ H E (match cb' env1 with
          | .nx env2 => whRun ct cb' m env2
          | .ct env2 => whRun ct cb' m env2
          | .bk env2 => .nx env2
          | o => o) := po1
        cases eb : cb' env1 with
        | nx env4 => rw [eb] at po2; exact fun fs4 σ4 H4 G4 s4 => ⟨fs4, env4, G4, comp s4, po2⟩
        | ct env4 => rw [eb] at po2; exact fun fs4 σ4 H4 G4 s4 => ⟨fs4, env4, G4, comp s4, po2⟩
        | bk env4 => rw [eb] at po2; exact fun fs4 σ4 H4 G4 s4 => po2 fs4 σ4 H4 G4 (comp s4)
        | rt d4 env4 => rw [eb] at po2; exact fun v fs4 σ4 H4 fp4 G4 s4 r4 => po2 v fs4 σ4 H4 fp4 G4 (comp s4) r4
        | ex x4 env4 => rw [eb] at po2; exact fun cv dd fs4 σ4 H4 G4 s4 => po2 cv dd fs4 σ4 H4 G4 (comp s4)
        | err => rw [eb] at po2; exact po2

/-! ### what is walked -/
/-- range(n) -/
def rngItems : List D → Option (List D)
  | [.int j] => if -(2 ^ 62) ≤ j ∧ j < 2 ^ 62 then some ((List.range j.toNat).map fun i => .int (i : Nat)) else none
  | _ => none
def iRange1 (cs : CA) : CA := fun env => (cs env).bind fun ds env => R.of (rngItems ds) env
theorem srcRange {lo : Int} {n : Nat} : SrcOk C (Itr lo n) ((List.range n).map fun (i : Nat) => D.int (lo + (i : Nat))) [] H := by
  refine ⟨?_⟩
  have hl : ((List.range n).map fun (i : Nat) => D.int (lo + (i : Nat))).length = n := by simp
  rw [hl]
  refine walk_range.mono (fun _ _ => trivial) fun i H x H' hi _ ⟨e1, e2⟩ => ?_
  subst e1 e2
  exact ⟨.refl _, .int (lo + i), by simp [hi], rfl, rfl⟩
theorem si_range1 {p2 : Pos} (hg : Gl X "range") (hm : X.mg "range" = none) (ha : SA X W M Rs [a] cs) (hs : starEach [a] X.env = [(false, eval a X.env)] := by rfl) : SI X W M [] tg (.Call (.Name "range" p2) [a] [] pos) (iRange1 cs) := by
  obtain ⟨t, p, q⟩ := ha.go
  refine ⟨iRng1 t, pi_range1 hg hm p hs, fun C fs env σ H tf Q hC G po => q C fs env σ H tf _ hC G ?_⟩
  unfold iRange1 at po
  cases e1 : cs env with
  | err => rw [e1] at po; exact po
  | ex x env' => rw [e1] at po; exact po
  | ok ds env1 =>
    rw [e1] at po
    intro vs fs1 H1 fp own G1 s1 r1 i1
    have po' : PostI W C M [] tf fs env σ H Q (R.of (rngItems ds) env1) := po
    cases e2 : rngItems ds with
    | none => rw [e2] at po'; exact po'.elim
    | some its =>
      rw [e2] at po'
      unfold rngItems at e2
      split at e2
      · rename_i j
        obtain ⟨v, rfl, r⟩ := reps1 r1
        obtain ⟨rfl, _⟩ := r
        split at e2
        · rename_i hj
          cases e2
          refine ⟨j, rfl, hj.1, hj.2, po' _ fs1 H1 [] [] (by simpa using G1.drop) s1 ?_ fun _ z => nomatch z⟩
          have := srcRange (C := C) (H := H1) (lo := 0) (n := j.toNat)
          simpa using this
        · cases e2
      · cases e2
/-- a list or tuple that stands, its items without nodes of ours -/
def iSeq (c : CE) : CA := fun env => (c env).bind fun d env => match d with
  | .lst _ ds => if imms ds then .ok ds env else .err
  | _ => .err
theorem reps_imm_get : ∀ {ds : List D} {vs : List V} {fp : List Addr} {i : Nat} {x : V}, Reps C H ds vs fp → imms ds = true → vs[i]? = some x → ∃ d, ds[i]? = some d ∧ Rep C H d x []
  | [], vs, fp, i, x, ⟨e, _⟩, _, h => by subst e; simp at h
  | d :: ds, vs, fp, 0, x, ⟨v, vs', f1, f2, e, r, rs, _⟩, hi, h => by
    subst e
    have z := Bool.and_eq_true_iff.mp hi
    simp at h; subst h
    have := r.imm z.1
    subst this
    exact ⟨d, by simp, r⟩
  | d :: ds, vs, fp, i + 1, x, ⟨v, vs', f1, f2, e, r, rs, _⟩, hi, h => by
    subst e
    have z := Bool.and_eq_true_iff.mp hi
    obtain ⟨d', h1, h2⟩ := reps_imm_get (i := i) rs z.2 (by simpa using h)
    exact ⟨d', by simpa using h1, h2⟩
theorem si_list (h : SB X W M Rs e ca) : SI X W M Rs tg e (iSeq ca) := by
  obtain ⟨t, p, q⟩ := h.go
  refine ⟨iList X.K t, pi_list p, fun C fs env σ H tf Q hC G po => q C fs env σ H tf _ hC G ?_⟩
  unfold iSeq at po
  cases e1 : ca env with
  | err => rw [e1] at po; exact po
  | ex x env' => rw [e1] at po; exact po
  | ok d env1 =>
    rw [e1] at po
    intro v fs1 H1 fp own G1 s1 r1 i1
    cases d with
    | lst g ds =>
      have po' : PostI W C M Rs tf fs env σ H Q (if imms ds then .ok ds env1 else .err) := po
      by_cases hi : imms ds = true
      · rw [if_pos hi] at po'
        have r1' := r1
        obtain ⟨a, vs, f1, f2, rfl, n, rs, hz, ef⟩ := r1
        have sq : SqL X.K H1 a vs := by have := (Nd.rd n G1.fr).sql; rwa [hC.1] at this
        refine ⟨a, rfl, ⟨vs, sq⟩, po' _ fs1 H1 fp own G1 s1 ⟨?_⟩ i1⟩
        have z := rs.imm hi
        subst z
        rw [reps_length rs]
        refine Walk.mono (walk_list (K := X.K) (a := a) (xs := vs)) (fun H2 ⟨hf2, hm, hk⟩ => ?_) fun i H2 x H3 hi2 ⟨hf2, hm, hk⟩ ⟨e1, e2⟩ => ?_
        · have n2 : Nd C H2 g a (.lst vs) f1 := Nd.keep n (fun b hb => hk b (by rw [ef]; simp [hb])) hm
          have := (Nd.rd n2 hf2).sql; rwa [hC.1] at this
        · subst e1
          have rs2 : Reps C H3 ds vs [] := rs.keep (fun b hb => nomatch hb) hm
          obtain ⟨d, h1, h2⟩ := reps_imm_get rs2 hi e2
          exact ⟨.refl _, d, h1, h2⟩
      · rw [if_neg hi] at po'; exact po'.elim
    | _ => exact po.elim
def iTupD (c : CE) : CA := fun env => (c env).bind fun d env => match d with
  | .tup ds => if imms ds then .ok ds env else .err
  | _ => .err
theorem si_tup (h : SB X W M Rs e ca) : SI X W M Rs tg e (iTupD ca) := by
  obtain ⟨t, p, q⟩ := h.go
  refine ⟨iTup X.K t, pi_tup p, fun C fs env σ H tf Q hC G po => q C fs env σ H tf _ hC G ?_⟩
  unfold iTupD at po
  cases e1 : ca env with
  | err => rw [e1] at po; exact po
  | ex x env' => rw [e1] at po; exact po
  | ok d env1 =>
    rw [e1] at po
    intro v fs1 H1 fp own G1 s1 r1 i1
    cases d with
    | tup ds =>
      have po' : PostI W C M Rs tf fs env σ H Q (if imms ds then .ok ds env1 else .err) := po
      by_cases hi : imms ds = true
      · rw [if_pos hi] at po'
        have r1' := r1
        obtain ⟨a, vs, rfl, n, rs⟩ := r1
        have sq : SqT X.K H1 a vs := by rwa [hC.1] at n
        refine ⟨a, rfl, ⟨vs, sq⟩, po' _ fs1 H1 fp own G1 s1 ⟨?_⟩ i1⟩
        have z := rs.imm hi
        subst z
        rw [reps_length rs]
        refine Walk.mono (walk_tup (K := X.K) (a := a) (xs := vs)) (fun H2 ⟨hf2, hm, hk⟩ => ?_) fun i H2 x H3 hi2 ⟨hf2, hm, hk⟩ ⟨e1, e2⟩ => ?_
        · exact sqt_keep sq hm
        · subst e1
          have rs2 : Reps C H3 ds vs [] := rs.keep (fun b hb => nomatch hb) hm
          obtain ⟨d, h1, h2⟩ := reps_imm_get rs2 hi e2
          exact ⟨.refl _, d, h1, h2⟩
      · rw [if_neg hi] at po'; exact po'.elim
    | _ => exact po.elim
end
end VS

set_option maxRecDepth 100000
namespace VS
open PySem L2 SeqAt PySem.Spec PyProof.Rows

/-! ### lending -/
section
variable {C C' : Ctx} {H : Hp}
/-- the callee's ctx: its entry is here, A is what it may change -/
structure Enter (C C' : Ctx) (H : Hp) : Prop where
  k : C'.K = C.K
  mg : C'.mg = C.mg
  h0 : C'.H0 = H
  lk : C'.Lk = C.Lk
  fr : Fr C H
  a : ∀ x ∈ C'.A, (x ∈ C.A ∨ C.H0 x = none) ∧ ∃ o, H x = some o ∧ Mutb o
theorem Enter.lnd {g a u fp} (E : Enter C C' H) (n : Nd C H g a u fp) (hd : ∀ b ∈ fp, b ∉ C'.A) : Nd C' H g.lend a u [] := by
  have z : ∀ {o w}, H a = some (.frz o w) → a ∉ C'.A := fun {o w} e hm => by
    obtain ⟨_, q, e2, mu⟩ := E.a a hm
    rw [e] at e2; cases e2; exact mu
  cases g with
  | m =>
    obtain ⟨e, rfl⟩ := n
    exact ⟨.inl ⟨by rw [E.h0]; exact .inl e, hd a (by simp)⟩, rfl⟩
  | l =>
    obtain ⟨⟨r, na⟩ | h, _⟩ := n
    · have nA : a ∉ C'.A := fun hm => by
        obtain ⟨q, o, e, mu⟩ := E.a a hm
        rcases q with q | q
        · exact na q
        · rcases r with r | ⟨ob, r⟩ <;> rw [q] at r <;> cases r
      refine ⟨.inl ⟨?_, nA⟩, rfl⟩
      rw [E.h0]
      rcases r with r | ⟨ob, r⟩
      · rcases E.fr a _ r na with q | ⟨_, _, ob, q⟩
        · exact .inl q
        · exact .inr ⟨ob, q⟩
      · rcases E.fr a _ r na with q | ⟨_, mu, ob2, q⟩
        · exact .inr ⟨ob, q⟩
        · exact mu.elim
    · exact ⟨.inr (by rw [E.k]; exact h), rfl⟩
  | f =>
    obtain ⟨⟨o, e⟩, x, _⟩ := n
    exact ⟨⟨o, e⟩, by rw [E.lk]; exact x, rfl⟩
  | k =>
    obtain ⟨⟨o, e⟩, _⟩ := n
    exact ⟨.inl ⟨by rw [E.h0]; exact .inr ⟨o, e⟩, z e⟩, rfl⟩
theorem Enter.nd {g a u fp} (E : Enter C C' H) (n : Nd C H g a u fp) : Nd C' H g a u fp := by
  cases g with
  | m => exact n
  | l => obtain ⟨h, e⟩ := n; subst e; exact E.lnd (g := .l) ⟨h, rfl⟩ fun _ z => nomatch z
  | f => obtain ⟨⟨o, e⟩, x, q⟩ := n; exact ⟨⟨o, e⟩, by rw [E.lk]; exact x, q⟩
  | k => exact n
theorem clsOf_eq {c Ca} (h : C'.mg = C.mg) (q : clsOf C c Ca) : clsOf C' c Ca := by unfold clsOf at *; rw [h]; exact q
mutual
theorem Rep.enter (E : Enter C C' H) : ∀ {d : D} {v : V} {fp : List Addr}, Rep C H d v fp → Rep C' H d v fp
  | .non, v, fp, h => h
  | .bl b, v, fp, h => h
  | .int i, v, fp, h => h
  | .str s, v, fp, h => h
  | .ty s, v, fp, h => h
  | .tup ds, v, fp, ⟨a, vs, e, t, r⟩ => ⟨a, vs, e, by rw [E.k]; exact t, Reps.enter E r⟩
  | .lst g ds, v, fp, ⟨a, vs, f1, f2, e, n, r, z, e2⟩ => ⟨a, vs, f1, f2, e, E.nd n, Reps.enter E r, z, e2⟩
  | .dct g ks ds, v, fp, ⟨a, vs, f1, f2, e, n, q, r, z, e2⟩ => ⟨a, vs, f1, f2, e, E.nd n, q, Reps.enter E r, z, e2⟩
  | .obj g c ns ds, v, fp, ⟨a, Ca, dx, fs, f1, f2, e, c1, n, q, r, z, e2⟩ => ⟨a, Ca, dx, fs, f1, f2, e, clsOf_eq E.mg c1, E.nd n, q, Reps.enter E r, z, e2⟩
theorem Reps.enter (E : Enter C C' H) : ∀ {ds : List D} {vs : List V} {fp : List Addr}, Reps C H ds vs fp → Reps C' H ds vs fp
  | [], vs, fp, h => h
  | d :: ds, vs, fp, ⟨v, vs', f1, f2, e, r, rs, e2⟩ => ⟨v, vs', f1, f2, e, Rep.enter E r, Reps.enter E rs, e2⟩
end
mutual
theorem Rep.lend (E : Enter C C' H) : ∀ {d : D} {v : V} {fp : List Addr}, Rep C H d v fp → (∀ b ∈ fp, b ∉ C'.A) → Rep C' H d.lend v []
  | .non, v, fp, h, _ => ⟨h.1, rfl⟩
  | .bl b, v, fp, h, _ => ⟨h.1, rfl⟩
  | .int i, v, fp, h, _ => ⟨h.1, rfl⟩
  | .str s, v, fp, h, _ => ⟨h.1, rfl⟩
  | .ty s, v, fp, h, _ => ⟨h.1, rfl⟩
  | .tup ds, v, fp, ⟨a, vs, e, t, r⟩, hd => ⟨a, vs, e, by rw [E.k]; exact t, Reps.lend E r hd⟩
  | .lst g ds, v, fp, ⟨a, vs, f1, f2, e, n, r, z, e2⟩, hd => ⟨a, vs, [], [], e, E.lnd n (fun b hb => hd b (by rw [e2]; exact List.mem_append_left _ hb)), Reps.lend E r (fun b hb => hd b (by rw [e2]; exact List.mem_append_right _ hb)), .inr rfl, rfl⟩
  | .dct g ks ds, v, fp, ⟨a, vs, f1, f2, e, n, q, r, z, e2⟩, hd => ⟨a, vs, [], [], e, E.lnd n (fun b hb => hd b (by rw [e2]; exact List.mem_append_left _ hb)), q, Reps.lend E r (fun b hb => hd b (by rw [e2]; exact List.mem_append_right _ hb)), .inr rfl, rfl⟩
  | .obj g c ns ds, v, fp, ⟨a, Ca, dx, fs, f1, f2, e, c1, n, q, r, z, e2⟩, hd => ⟨a, Ca, dx, fs, [], [], e, clsOf_eq E.mg c1, E.lnd n (fun b hb => hd b (by rw [e2]; exact List.mem_append_left _ hb)), q, Reps.lend E r (fun b hb => hd b (by rw [e2]; exact List.mem_append_right _ hb)), .inr rfl, rfl⟩
theorem Reps.lend (E : Enter C C' H) : ∀ {ds : List D} {vs : List V} {fp : List Addr}, Reps C H ds vs fp → (∀ b ∈ fp, b ∉ C'.A) → Reps C' H (lends ds) vs []
  | [], vs, fp, h, _ => ⟨h.1, rfl⟩
  | d :: ds, vs, fp, ⟨v, vs', f1, f2, e, r, rs, e2⟩, hd => ⟨v, vs', [], [], e, Rep.lend E r (fun b hb => hd b (by rw [e2]; exact List.mem_append_left _ hb)), Reps.lend E rs (fun b hb => hd b (by rw [e2]; exact List.mem_append_right _ hb)), rfl⟩
end
mutual
/-- what has nothing lent reads the same outside -/
theorem Rep.leave (hk : C'.K = C.K) (hm : C'.mg = C.mg) (hl : C'.Lk = C.Lk) : ∀ {d : D} {v : V} {fp : List Addr}, Rep C' H d v fp → d.nol = true → Rep C H d v fp
  | .non, v, fp, h, _ => h
  | .bl b, v, fp, h, _ => h
  | .int i, v, fp, h, _ => h
  | .str s, v, fp, h, _ => h
  | .ty s, v, fp, h, _ => h
  | .tup ds, v, fp, ⟨a, vs, e, t, r⟩, hn => ⟨a, vs, e, by rw [← hk]; exact t, Reps.leave hk hm hl r hn⟩
  | .lst g ds, v, fp, ⟨a, vs, f1, f2, e, n, r, z, e2⟩, hn => ⟨a, vs, f1, f2, e, nd_leave hl n (Bool.and_eq_true_iff.mp hn).1, Reps.leave hk hm hl r (Bool.and_eq_true_iff.mp hn).2, z, e2⟩
  | .dct g ks ds, v, fp, ⟨a, vs, f1, f2, e, n, q, r, z, e2⟩, hn => ⟨a, vs, f1, f2, e, nd_leave hl n (Bool.and_eq_true_iff.mp hn).1, q, Reps.leave hk hm hl r (Bool.and_eq_true_iff.mp hn).2, z, e2⟩
  | .obj g c ns ds, v, fp, ⟨a, Ca, dx, fs, f1, f2, e, c1, n, q, r, z, e2⟩, hn => ⟨a, Ca, dx, fs, f1, f2, e, clsOf_eq hm.symm c1, nd_leave hl n (Bool.and_eq_true_iff.mp hn).1, q, Reps.leave hk hm hl r (Bool.and_eq_true_iff.mp hn).2, z, e2⟩
theorem Reps.leave (hk : C'.K = C.K) (hm : C'.mg = C.mg) (hl : C'.Lk = C.Lk) : ∀ {ds : List D} {vs : List V} {fp : List Addr}, Reps C' H ds vs fp → nols ds = true → Reps C H ds vs fp
  | [], vs, fp, h, _ => h
  | d :: ds, vs, fp, ⟨v, vs', f1, f2, e, r, rs, e2⟩, hn => ⟨v, vs', f1, f2, e, Rep.leave hk hm hl r (Bool.and_eq_true_iff.mp hn).1, Reps.leave hk hm hl rs (Bool.and_eq_true_iff.mp hn).2, e2⟩
theorem nd_leave {g a u fp} (hl : C'.Lk = C.Lk) (n : Nd C' H g a u fp) (h : (g == .m || g == .f) = true) : Nd C H g a u fp := by
  cases g with
  | m => exact n
  | l => cases h
  | f => obtain ⟨⟨o, e⟩, x, q⟩ := n; exact ⟨⟨o, e⟩, by rw [← hl]; exact x, q⟩
  | k => cases h
end
end

/-! ### defs -/
inductive FR where
  | ok (r : D) (outs : List D)
  | ex (x : Exn) (outs : List D)
  | err
def outsOf : List Bool → Env → Option (List D)
  | [], _ => some []
  | true :: bs, some d :: env => (outsOf bs env).map (d :: ·)
  | false :: bs, _ :: env => outsOf bs env
  | _, _ => none
def fnEnd (io : List Bool) : O → FR
  | .nx env => match outsOf io env with
    | some os => .ok .non os
    | none => .err
  | .rt d env => match outsOf io env with
    | some os => .ok d os
    | none => .err
  | .ex x env => match outsOf io env with
    | some os => .ex x os
    | none => .err
  | _ => .err
def fnEnv (n : Nat) (ds : List D) : Env := ds.map some ++ List.replicate (n - ds.length) none
/-- a def with n names; io tells which of its parameters it may change -/
def fnRun (n : Nat) (io : List Bool) (c : CS) (ds : List D) : FR := if ds.length = io.length ∧ io.length ≤ n then fnEnd io (c (fnEnv n ds)) else .err

/-- arguments: the io ones owned, the others lent -/
def ArgR (C : Ctx) (H : Hp) : List Bool → List D → List V → FPs → Prop
  | [], ds, vs, fps => ds = [] ∧ vs = [] ∧ fps = []
  | b :: bs, ds, vs, fps => ∃ d ds' v vs' fp fps', ds = d :: ds' ∧ vs = v :: vs' ∧ fps = fp :: fps' ∧ Rep C H d v fp ∧ (b = true ∨ fp = []) ∧ ArgR C H bs ds' vs' fps'
/-- what the io ones are behind -/
def OutR (C : Ctx) (H : Hp) : List Bool → List D → List V → FPs → Prop
  | [], os, vs, fps => os = [] ∧ fps = []
  | true :: bs, os, vs, fps => ∃ o os' v vs' fp fps', os = o :: os' ∧ vs = v :: vs' ∧ fps = fp :: fps' ∧ Rep C H o v fp ∧ OutR C H bs os' vs' fps'
  | false :: bs, os, vs, fps => ∃ v vs', vs = v :: vs' ∧ OutR C H bs os vs' fps
def PostF (C : Ctx) (H : Hp) (io : List Bool) (vs : List V) (Q : VK) (E : XK) : FR → Prop
  | .ok r os => ∀ v H' fp fps, Fr C H' → Mono H H' → Rep C H' r v fp → OutR C H' io os vs fps → (fp ++ fps.flatten).Nodup → (∀ a ∈ fp ++ fps.flatten, a ∈ C.A ∨ H a = none) → Q v H'
  | .ex x os => ∀ cv dd H' fps, Fr C H' → Mono H H' → ExIs C x cv dd H' → OutR C H' io os vs fps → fps.flatten.Nodup → (∀ a ∈ fps.flatten, a ∈ C.A ∨ H a = none) → E cv dd H'
  | .err => False
/-- the promise of a def that comes to φ -/
def spF (K : PySem.W.Frag) (mg : Str → Option Value) (io : List Bool) (φ : List D → FR) : Sp := fun vs H Q E => ∃ (Lk : List Addr) (ds : List D) (fps : FPs),
  vs.length = io.length ∧ ArgR ⟨K, mg, H, fps.flatten, Lk⟩ H io ds vs fps ∧ fps.flatten.Nodup ∧ (∀ a ∈ Lk, ∃ ob u, H a = some (.frz ob u)) ∧ PostF ⟨K, mg, H, fps.flatten, Lk⟩ H io vs Q E (φ ds)

theorem fr_entry {C : Ctx} {H : Hp} (h : C.H0 = H) : Fr C H := fun a o e _ => .inl (by rw [← h]; exact e)
theorem ArgR.len {C H} : ∀ {io ds vs fps}, ArgR C H io ds vs fps → ds.length = io.length ∧ vs.length = io.length ∧ fps.length = io.length
  | [], ds, vs, fps, ⟨h1, h2, h3⟩ => by subst h1 h2 h3; exact ⟨rfl, rfl, rfl⟩
  | b :: bs, ds, vs, fps, ⟨d, ds', v, vs', fp, fps', h1, h2, h3, _, _, r⟩ => by
    subst h1 h2 h3
    obtain ⟨a1, a2, a3⟩ := ArgR.len r
    exact ⟨by simp [a1], by simp [a2], by simp [a3]⟩
theorem ArgR.get {C H} : ∀ {io ds vs fps} {i : Nat} {d : D}, ArgR C H io ds vs fps → ds[i]? = some d → ∃ v, vs[i]? = some v ∧ Rep C H d v (fps.getD i [])
  | [], ds, vs, fps, i, d, ⟨h1, h2, h3⟩, h => by subst h1; simp at h
  | b :: bs, ds, vs, fps, 0, d, ⟨d0, ds', v, vs', fp, fps', h1, h2, h3, r, _, _⟩, h => by
    subst h1 h2 h3
    simp at h; subst h
    exact ⟨v, by simp, by simpa using r⟩
  | b :: bs, ds, vs, fps, i + 1, d, ⟨d0, ds', v, vs', fp, fps', h1, h2, h3, _, _, r⟩, h => by
    subst h1 h2 h3
    obtain ⟨v', h1, h2⟩ := ArgR.get (i := i) r (by simpa using h)
    exact ⟨v', by simpa using h1, by simpa using h2⟩
theorem ArgR.trk {C H} : ∀ {io ds vs fps}, ArgR C H io ds vs fps → ∀ a ∈ fps.flatten, ∃ o, H a = some o ∧ Mutb o
  | [], ds, vs, fps, ⟨h1, h2, h3⟩ => by subst h3; intro a ha; simp at ha
  | b :: bs, ds, vs, fps, ⟨d0, ds', v, vs', fp, fps', h1, h2, h3, r, _, rs⟩ => by
    subst h3
    intro a ha
    rw [List.flatten_cons] at ha
    exact (List.mem_append.mp ha).elim (r.trk a) (ArgR.trk rs a)
theorem flat_rep (fps : FPs) (n : Nat) : (fps ++ List.replicate n []).flatten = fps.flatten := by
  rw [List.flatten_append]
  have : (List.replicate n ([] : List Addr)).flatten = [] := by
    rw [List.flatten_eq_nil_iff]; intro l hl; exact (List.mem_replicate.mp hl).2
  rw [this, List.append_nil]
/-- a def's entry -/
theorem good_start {C : Ctx} {H : Hp} {N : List Str} {io ds vs fps} (h0 : C.H0 = H) (hA : C.A = fps.flatten) (r : ArgR C H io ds vs fps) (nd : fps.flatten.Nodup) (hl : io.length ≤ N.length) (hk : ∀ a ∈ C.Lk, ∃ ob u, H a = some (.frz ob u)) :
    Good C (fps ++ List.replicate (N.length - fps.length) []) (fnEnv N.length ds) (L2.start N vs) H [] := by
  obtain ⟨l1, l2, l3⟩ := r.len
  refine ⟨?_, ?_, fun i d e => ?_, ?_, fun a ha => ?_, fun a ha => ?_, fr_entry h0, hk⟩
  · simp [fnEnv, L2.start]; omega
  · simp [L2.start]; omega
  · unfold fnEnv at e
    have hi : i < ds.length := by
      by_cases hi : i < ds.length
      · exact hi
      · rw [List.getElem?_append_right (by simp; omega)] at e
        rw [List.getElem?_replicate] at e
        split at e <;> simp at e
    rw [List.getElem?_append_left (by simpa using hi), List.getElem?_map] at e
    have e' : ds[i]? = some d := by
      cases q : ds[i]? with
      | none => rw [q] at e; simp at e
      | some x => rw [q] at e; simp at e; rw [e]
    obtain ⟨v, h1, h2⟩ := r.get e'
    refine ⟨v, ?_, ?_⟩
    · unfold L2.start
      rw [List.getElem?_append_left (by simp; omega), List.getElem?_map, h1]; rfl
    · have : (fps ++ List.replicate (N.length - fps.length) []).getD i [] = fps.getD i [] := by
        rw [List.getD_eq_getElem?_getD, List.getD_eq_getElem?_getD, List.getElem?_append_left (by omega)]
      rw [this]; exact h2
  · rw [flat_rep, List.append_nil]; exact nd
  · rw [flat_rep, List.append_nil] at ha; exact .inl (by rw [hA]; exact ha)
  · rw [flat_rep, List.append_nil] at ha; exact r.trk a ha
/-- the slots of the io parameters, from slot n on -/
def ioSlots : Nat → List Bool → List Nat
  | _, [] => []
  | n, true :: bs => n :: ioSlots (n + 1) bs
  | n, false :: bs => ioSlots (n + 1) bs
theorem fl_sub : ∀ {l : FPs} {i : Nat} {x : List Addr}, l[i]? = some x → x.Sublist l.flatten
  | f :: l, 0, x, h => by simp at h; subst h; simp [List.flatten_cons]
  | f :: l, i + 1, x, h => by
    rw [List.flatten_cons]
    exact (fl_sub (l := l) (i := i) (by simpa using h)).trans (List.sublist_append_right _ _)
theorem outs_at {C : Ctx} {H' : Hp} {fs : FPs} {env : Env} {σ : L2.St} (hrep : ∀ i d, env[i]? = some (some d) → ∃ v, σ[i]? = some (some v) ∧ Rep C H' d v (fs.getD i [])) : ∀ {n : Nat} {io : List Bool} {os : List D} {vs : List V},
    outsOf io (env.drop n) = some os → vs.length = io.length → (∀ j ∈ ioSlots n io, σ[j]? = (vs[j - n]?).map some) → OutR C H' io os vs ((ioSlots n io).map fun j => fs.getD j [])
  | n, [], os, vs, h, hl, hv => by simp [outsOf] at h; exact ⟨h.symm ▸ rfl, rfl⟩
  | n, true :: bs, os, vs, h, hl, hv => by
    cases vs with
    | nil => simp at hl
    | cons v vs =>
      cases q : env.drop n with
      | nil => rw [q] at h; simp [outsOf] at h
      | cons od rest =>
        rw [q] at h
        cases od with
        | none => simp [outsOf] at h
        | some d =>
          have hd : env[n]? = some (some d) := by
            have := congrArg List.head? q
            simpa [List.head?_drop] using this
          have hrest : rest = env.drop (n + 1) := by
            have := congrArg List.tail q
            simpa [List.tail_drop] using this.symm
          simp only [outsOf] at h
          obtain ⟨os', h1, rfl⟩ := Option.map_eq_some_iff.mp h
          rw [hrest] at h1
          obtain ⟨w, e1, r⟩ := hrep n d hd
          have := hv n (by simp [ioSlots])
          simp at this
          rw [this] at e1; cases e1
          refine ⟨d, os', v, vs, _, _, rfl, rfl, rfl, r, outs_at hrep h1 (by simpa using hl) fun j hj => ?_⟩
          have hj1 : n + 1 ≤ j := by
            have key : ∀ (bs : List Bool) (m : Nat), ∀ j ∈ ioSlots m bs, m ≤ j := by
              intro bs
              induction bs with
              | nil => intro m j h; simp [ioSlots] at h
              | cons b bs ih =>
                intro m j h
                cases b with
                | true =>
                  simp only [ioSlots, List.mem_cons] at h
                  rcases h with h | h
                  · omega
                  · have := ih _ _ h; omega
                | false => simp only [ioSlots] at h; have := ih _ _ h; omega
            exact key bs (n + 1) j hj
          have := hv j (by simp [ioSlots, hj])
          rw [this]
          have e : j - n = (j - (n + 1)) + 1 := by omega
          rw [e]; simp
  | n, false :: bs, os, vs, h, hl, hv => by
    cases vs with
    | nil => simp at hl
    | cons v vs =>
      cases q : env.drop n with
      | nil => rw [q] at h; simp [outsOf] at h
      | cons od rest =>
        rw [q] at h
        have hrest : rest = env.drop (n + 1) := by
          have := congrArg List.tail q
          simpa [List.tail_drop] using this.symm
        simp only [outsOf] at h
        rw [hrest] at h
        refine ⟨v, vs, rfl, outs_at hrep h (by simpa using hl) fun j hj => ?_⟩
        have hj1 : n + 1 ≤ j := by
          have key : ∀ (bs : List Bool) (m : Nat), ∀ j ∈ ioSlots m bs, m ≤ j := by
            intro bs
            induction bs with
            | nil => intro m j h; simp [ioSlots] at h
            | cons b bs ih =>
              intro m j h
              cases b with
              | true =>
                simp only [ioSlots, List.mem_cons] at h
                rcases h with h | h
                · omega
                · have := ih _ _ h; omega
              | false => simp only [ioSlots] at h; have := ih _ _ h; omega
          exact key bs (n + 1) j hj
        have := hv j (by simp [ioSlots, hj])
        rw [this]
        have e : j - n = (j - (n + 1)) + 1 := by omega
        rw [e]; simp
theorem ioSlots_lt : ∀ (io : List Bool) (n : Nat), ∀ j ∈ ioSlots n io, n ≤ j ∧ j < n + io.length
  | [], n => by intro j h; simp [ioSlots] at h
  | true :: bs, n => by
    intro j h
    simp only [ioSlots, List.mem_cons] at h
    rcases h with h | h
    · simp; omega
    · have := ioSlots_lt bs _ _ h; simp; omega
  | false :: bs, n => by
    intro j h
    simp only [ioSlots] at h
    have := ioSlots_lt bs _ _ h; simp; omega
theorem ioSlots_sub : ∀ (io : List Bool) (n : Nat) (fs : FPs), (((ioSlots n io).map fun j => fs.getD j []).flatten).Sublist ((fs.drop n).flatten)
  | [], n, fs => by simp [ioSlots]
  | true :: bs, n, fs => by
    simp only [ioSlots, List.map_cons, List.flatten_cons]
    cases q : fs.drop n with
    | nil =>
      have hn : fs.length ≤ n := by simpa using q
      have : fs.getD n [] = [] := by rw [List.getD_eq_getElem?_getD, List.getElem?_eq_none hn]; rfl
      rw [this, List.nil_append]
      have := ioSlots_sub bs (n + 1) fs
      rw [List.drop_eq_nil_of_le (by omega)] at this
      exact this
    | cons f r =>
      have e1 : fs.getD n [] = f := by
        have := congrArg List.head? q
        rw [List.head?_drop] at this
        rw [List.getD_eq_getElem?_getD, this]; rfl
      have e2 : fs.drop (n + 1) = r := by
        have := congrArg List.tail q
        simpa [List.tail_drop] using this
      rw [e1, List.flatten_cons]
      have := ioSlots_sub bs (n + 1) fs
      rw [e2] at this
      exact (List.Sublist.refl f).append this
  | false :: bs, n, fs => by
    simp only [ioSlots]
    refine (ioSlots_sub bs (n + 1) fs).trans ?_
    cases q : fs.drop n with
    | nil =>
      have hn : fs.length ≤ n := by simpa using q
      rw [List.drop_eq_nil_of_le (by omega)]; simp
    | cons f r =>
      have e2 : fs.drop (n + 1) = r := by
        have := congrArg List.tail q
        simpa [List.tail_drop] using this
      rw [e2, List.flatten_cons]
      exact List.sublist_append_right _ _

/-- a def's body comes to what fnRun tells -/
theorem fn_core {X : Cx} {K : PySem.W.Frag} {mg : Str → Option Value} {scope : Scope} {sts : List Stmt} {N ps : List Str} {io : List Bool} {c : CS} {M Vs : List Nat} {vs : List V} {H : Hp} {Q : VK} {E : XK} (hK : K = X.K) (hmg : mg = X.mg)
    (S : FnScope N ps scope) (hio : io.length = ps.length) (hv : djB (ioSlots 0 io) Vs = true) (hb : SSs X (fun cls d _ H => E cls d H) M Vs sts c) (h : spF K mg io (fnRun N.length io c) vs H Q E) :
    ∃ t, PSs X sts t ∧ t { nx := fun _ H' => Q .non H', rt := Q } (L2.start N vs) H := by
  obtain ⟨Lk, ds, fps, hl, hA, nd, hk, po⟩ := h
  obtain ⟨t, p, q⟩ := hb.go
  refine ⟨t, p, ?_⟩
  obtain ⟨l1, l2, l3⟩ := hA.len
  have hN : io.length ≤ N.length := by
    have := congrArg List.length S.pre
    rw [List.length_take] at this
    omega
  have G := good_start (C := ⟨K, mg, H, fps.flatten, Lk⟩) (N := N) rfl rfl hA nd hN hk
  unfold fnRun at po
  rw [if_pos ⟨l1, hN⟩] at po
  have vals : ∀ {σ' : L2.St}, (∀ i, i ∉ Vs → σ'[i]? = (L2.start N vs)[i]?) → ∀ j ∈ ioSlots 0 io, σ'[j]? = (vs[j - 0]?).map some := fun {σ'} h j hj => by
    rw [h j (djB_ok hv j hj), Nat.sub_zero]
    have := ioSlots_lt io 0 j hj
    unfold L2.start
    rw [List.getElem?_append_left (by simp; omega), List.getElem?_map]
  have own : ∀ {fs' env' σ' H' fp}, Good ⟨K, mg, H, fps.flatten, Lk⟩ fs' env' σ' H' (fp ++ []) → (fp ++ ((ioSlots 0 io).map fun j => fs'.getD j []).flatten).Nodup ∧ ∀ a ∈ fp ++ ((ioSlots 0 io).map fun j => fs'.getD j []).flatten, a ∈ fps.flatten ∨ H a = none := fun {fs' env' σ' H' fp} G' => by
    have sub := ioSlots_sub io 0 fs'
    rw [List.drop_zero] at sub
    have p1 : (fp ++ fs'.flatten).Perm (fs'.flatten ++ (fp ++ [])) := by rw [List.append_nil]; exact List.perm_append_comm
    have s2 := (List.Sublist.refl fp).append sub
    exact ⟨(p1.nodup_iff.mpr G'.nd).sublist s2, fun a ha => G'.own a (p1.mem_iff.mp (s2.subset ha))⟩
  refine q ⟨K, mg, H, fps.flatten, Lk⟩ _ (fnEnv N.length ds) (L2.start N vs) H [] _ ⟨hK, hmg⟩ G ?_
  cases eo : c (fnEnv N.length ds) with
  | nx env' =>
    rw [eo] at po
    intro fs' σ' H' G' s'
    simp only [fnEnd] at po
    cases e2 : outsOf io env' with
    | none => rw [e2] at po; exact po.elim
    | some os =>
      rw [e2] at po
      obtain ⟨o1, o2⟩ := own (fp := []) (by simpa using G')
      exact po .non H' [] _ G'.fr s'.s.m ⟨rfl, rfl⟩ (outs_at (n := 0) G'.rep (by rw [List.drop_zero]; exact e2) hl (vals s'.v)) o1 o2
  | rt d env' =>
    rw [eo] at po
    intro v fs' σ' H' fp G' s' r
    simp only [fnEnd] at po
    cases e2 : outsOf io env' with
    | none => rw [e2] at po; exact po.elim
    | some os =>
      rw [e2] at po
      obtain ⟨o1, o2⟩ := own G'
      exact po v H' fp _ G'.fr s'.s.m r (outs_at (n := 0) G'.rep (by rw [List.drop_zero]; exact e2) hl (vals s'.v)) o1 o2
  | ex x env' =>
    rw [eo] at po
    intro cv dd fs' σ' H' G' s' hx
    simp only [fnEnd] at po
    cases e2 : outsOf io env' with
    | none => rw [e2] at po; exact po.elim
    | some os =>
      rw [e2] at po
      obtain ⟨o1, o2⟩ := own (fp := []) (by simpa using G')
      exact po cv dd H' _ G'.fr s'.s.m hx (outs_at (n := 0) G'.rep (by rw [List.drop_zero]; exact e2) hl (vals s'.v)) (by simpa using o1) (by simpa using o2)
  | bk env' => rw [eo] at po; exact po.elim
  | ct env' => rw [eo] at po; exact po.elim
  | err => rw [eo] at po; exact po.elim
/-- a def comes to fnRun of its body -/
theorem fn_ok {P : Program} {w : World} {K : PySem.W.Frag} {mg : Str → Option Value} {base : Heap} {x qual : Str} {st : Stmt} {f : Addr} {fd : FuncData} {N ps : List Str} {k : Nat} {io : List Bool} {c : CS} {M Vs : List Nat}
    (F : Fun K x qual st f fd) (S : FnScope N ps (defScope st)) (hio : io.length = ps.length) (hv : djB (ioSlots 0 io) Vs = true)
    (hb : ∀ (cdv : Value) (A : Around) (outer : List PySem.Env) (s : Shared) (H : Hp) (E : XK), Room k (A.deeper (envOfC qual (defScope st) s.heap.objs.size f cdv)) →
      SSs (cxOf (L2.CX P w) P w K mg base N qual (defScope st) f cdv A outer s H E) (fun cls d _ H => E cls d H) M Vs (defBody st) c) :
    FnOk P w K mg base (L2.CX P w) (k + 1) f fd ps (spF K mg io (fnRun N.length io c)) := by
  refine F.okX S (fun vs H Q E h => by obtain ⟨Lk, ds, fps, hl, _⟩ := h; rw [hl, hio]) fun cdv A outer s H vs Q E hr h => ?_
  exact fn_core rfl rfl S hio hv (hb cdv A outer s H E hr) h
end VS

set_option maxRecDepth 100000
namespace VS
open PySem L2 SeqAt

/-- an argument: lent, or owned (and put back into a slot behind the call) -/
inductive AV where
  | ro (d : D)
  | ow (d : D) (wb : Option Nat)
def AV.d : AV → D
  | .ro d => d.lend
  | .ow d _ => d
def AV.io : AV → Bool
  | .ro _ => false
  | .ow _ _ => true
def wbOk (σ : St) (Ms : List Nat) (v : V) : Option Nat → Prop
  | none => True
  | some i => σ[i]? = some (some v) ∧ i ∈ Ms
def AOk (C : Ctx) (H : Hp) (σ : St) (Ms Rs : List Nat) (fs : FPs) (ownr : List Addr) : List AV → List V → FPs → Prop
  | [], vs, fps => vs = [] ∧ fps = []
  | .ro d :: as, vs, fps => ∃ v vs' fp fps', vs = v :: vs' ∧ fps = [] :: fps' ∧ Rep C H d v fp ∧ In Rs ownr fs fp ∧ AOk C H σ Ms Rs fs ownr as vs' fps'
  | .ow d wb :: as, vs, fps => ∃ v vs' fp fps', vs = v :: vs' ∧ fps = fp :: fps' ∧ Rep C H d v fp ∧ wbOk σ Ms v wb ∧ AOk C H σ Ms Rs fs ownr as vs' fps'
def PostR (W : WX) (C : Ctx) (M Rs : List Nat) (tf : List Addr) (fs : FPs) (env : Env) (σ : St) (H : Hp) (Q : List V → Hp → Prop) : R (List AV) → Prop
  | .ok avs env' => ∀ vs fs' H' fps ownr, Good C fs' env' σ H' (fps.flatten ++ (ownr ++ tf)) → Step M tf fs env H fs' env' H' → AOk C H' σ M Rs fs' ownr avs vs fps → Q vs H'
  | .ex x env' => ∀ cv dd fs' H', Good C fs' env' σ H' tf → Step M tf fs env H fs' env' H' → ExIs C x cv dd H' → W cv dd σ H'
  | .err => False
structure SR (X : Cx) (W : WX) (M Rs : List Nat) (es : List Expr) (c : Env → R (List AV)) : Prop where
  go : ∃ t, PA X es t ∧ ∀ C fs env σ H tf Q, C.At X → Good C fs env σ H tf → PostR W C M Rs tf fs env σ H Q (c env) → t σ H Q

section
variable {X : Cx} {W : WX} {M M1 M2 M3 V1 V2 V3 Rs R1 R2 R3 : List Nat} {e a b c tg : Expr} {es : List Expr} {ca cb cc : CE} {pos p : Pos} {cr : Env → R (List AV)}
variable {pins : List (Addr × Obj)} {σ : St} {H H1 H2 : Hp} {s : Shared} {C C' : Ctx} {fs fs1 fs2 : FPs} {env env1 env2 : Env} {tf tf' own : List Addr}
theorem Good.perm (G : Good C fs env σ H tf) (h : tf'.Perm tf) : Good C fs env σ H tf' := by
  have p := h.append_left fs.flatten
  exact ⟨G.le, G.lf, G.rep, p.nodup_iff.mpr G.nd, fun a ha => G.own a (p.mem_iff.mp ha), fun a ha => G.trk a (p.mem_iff.mp ha), G.fr, G.lk⟩
theorem wbOk.mono {v} {M1 M2 : List Nat} (h : ∀ i ∈ M1, i ∈ M2) : ∀ {wb}, wbOk σ M1 v wb → wbOk σ M2 v wb
  | none, _ => trivial
  | some i, ⟨a, b⟩ => ⟨a, h i b⟩
theorem AOk.mono {ownr ownr'} (h : ∀ i ∈ M1, i ∈ M2) (hr : ∀ i ∈ R1, i ∈ R2) (ho : ∀ a ∈ ownr, a ∈ ownr') : ∀ {avs vs fps}, AOk C H σ M1 R1 fs ownr avs vs fps → AOk C H σ M2 R2 fs ownr' avs vs fps
  | [], vs, fps, x => x
  | .ro d :: as, vs, fps, ⟨v, vs', fp, fps', e1, e2, r, i, x⟩ => ⟨v, vs', fp, fps', e1, e2, r, i.mono hr ho, AOk.mono h hr ho x⟩
  | .ow d wb :: as, vs, fps, ⟨v, vs', fp, fps', e1, e2, r, i, x⟩ => ⟨v, vs', fp, fps', e1, e2, r, i.mono h, AOk.mono h hr ho x⟩
def aNil : Env → R (List AV) := fun env => .ok [] env
theorem sr_nil : SR X W [] [] [] aNil := by
  refine ⟨tNil, pa_nil, fun C fs env σ H tf Q hC G po => ?_⟩
  exact po [] fs H [] [] (by simpa using G) .refl ⟨rfl, rfl⟩
def aRo (ca : CE) (cr : Env → R (List AV)) : Env → R (List AV) := fun env => (ca env).bind fun d env => (cr env).bind fun as env => .ok (.ro d :: as) env
def aOw (ca : CE) (wb : Option Nat) (cr : Env → R (List AV)) : Env → R (List AV) := fun env => (ca env).bind fun d env => (cr env).bind fun as env => .ok (.ow d wb :: as) env
theorem sr_ro (ha : SB X W M1 R1 a ca) (hr : SR X W M2 R2 es cr) (hd : djB R1 M2 = true := by decide) (hs : starEach (a :: es) X.env = (false, eval a X.env) :: starEach es X.env := by rfl) : SR X W (M1 ++ M2) (R1 ++ R2) (a :: es) (aRo ca cr) := by
  obtain ⟨t, p, q⟩ := ha.go
  obtain ⟨t2, p2, q2⟩ := hr.go
  refine ⟨tCons t t2, pa_cons p p2 hs, fun C fs env σ H tf Q hC G po => ?_⟩
  refine q C fs env σ H tf _ hC G ?_
  unfold aRo at po
  cases e1 : ca env with
  | err => rw [e1] at po; exact po
  | ex x env' => rw [e1] at po; exact fun cv dd fs' H' G' s => po cv dd fs' H' G' (s.weak mem_l fun _ z => z)
  | ok d env1 =>
    rw [e1] at po
    intro v fs1 H1 fp1 own1 G1 s1 r1 i1
    refine q2 C fs1 env1 σ H1 (own1 ++ tf) _ hC G1 ?_
    have po' : PostR W C (M1 ++ M2) (R1 ++ R2) tf fs env σ H Q ((cr env1).bind fun as env => .ok (.ro d :: as) env) := po
    cases e2 : cr env1 with
    | err => rw [e2] at po'; exact po'
    | ex x env' => rw [e2] at po'; exact fun cv dd fs' H' G' s => po' cv dd fs' H' G'.drop (s1.trans (s.weak (fun _ z => z) fun x hx => List.mem_append_right _ hx))
    | ok as env2 =>
      rw [e2] at po'
      intro vs fs2 H2 fps ownr G2 s2 r2
      have po2 : ∀ vs fs' H' fps ownr, Good C fs' env2 σ H' (fps.flatten ++ (ownr ++ tf)) → Step (M1 ++ M2) tf fs env H fs' env2 H' → AOk C H' σ (M1 ++ M2) (R1 ++ R2) fs' ownr (.ro d :: as) vs fps → Q vs H' := po'
      refine po2 (v :: vs) fs2 H2 ([] :: fps) (ownr ++ own1) (by simpa using G2) (s1.trans (s2.weak (fun _ z => z) fun x hx => List.mem_append_right _ hx)) ?_
      exact ⟨v, vs, fp1, fps, rfl, rfl, r1.keep (i1.keep s2 (djB_ok hd)) s2.m, (i1.step (own2 := ownr) s2 (djB_ok hd)).mono mem_l fun _ z => z, r2.mono mem_r mem_r fun _ z => List.mem_append_left _ z⟩
theorem ow_go {t : TE} {t2 : TA} {wb : Option Nat} (hs : starEach (a :: es) X.env = (false, eval a X.env) :: starEach es X.env) (p : PE X a t) (p2 : PA X es t2)
    (q : ∀ C fs env σ H tf Q, C.At X → Good C fs env σ H tf → (match ca env with
      | .ok d env' => ∀ v fs' H' fp, Good C fs' env' σ H' (fp ++ tf) → Step M1 tf fs env H fs' env' H' → Rep C H' d v fp → wbOk σ M1 v wb → Q v H'
      | .ex x env' => ∀ cv dd fs' H', Good C fs' env' σ H' tf → Step M1 tf fs env H fs' env' H' → ExIs C x cv dd H' → W cv dd σ H'
      | .err => False) → t σ H Q)
    (q2 : ∀ C fs env σ H tf Q, C.At X → Good C fs env σ H tf → PostR W C M2 R2 tf fs env σ H Q (cr env) → t2 σ H Q) : SR X W (M1 ++ M2) R2 (a :: es) (aOw ca wb cr) := by
  refine ⟨tCons t t2, pa_cons p p2 hs, fun C fs env σ H tf Q hC G po => ?_⟩
  refine q C fs env σ H tf _ hC G ?_
  unfold aOw at po
  cases e1 : ca env with
  | err => rw [e1] at po; exact po
  | ex x env' => rw [e1] at po; exact fun cv dd fs' H' G' s => po cv dd fs' H' G' (s.weak mem_l fun _ z => z)
  | ok d env1 =>
    rw [e1] at po
    intro v fs1 H1 fp1 G1 s1 r1 w1
    refine q2 C fs1 env1 σ H1 (fp1 ++ tf) _ hC G1 ?_
    have po' : PostR W C (M1 ++ M2) R2 tf fs env σ H Q ((cr env1).bind fun as env => .ok (.ow d wb :: as) env) := po
    cases e2 : cr env1 with
    | err => rw [e2] at po'; exact po'
    | ex x env' => rw [e2] at po'; exact fun cv dd fs' H' G' s => po' cv dd fs' H' G'.drop (s1.trans (s.weak (fun _ z => z) fun x hx => List.mem_append_right _ hx))
    | ok as env2 =>
      rw [e2] at po'
      intro vs fs2 H2 fps ownr G2 s2 r2
      have po2 : ∀ vs fs' H' fps ownr, Good C fs' env2 σ H' (fps.flatten ++ (ownr ++ tf)) → Step (M1 ++ M2) tf fs env H fs' env2 H' → AOk C H' σ (M1 ++ M2) R2 fs' ownr (.ow d wb :: as) vs fps → Q vs H' := po'
      refine po2 (v :: vs) fs2 H2 (fp1 :: fps) ownr (G2.perm ?_) (s1.trans (s2.weak (fun _ z => z) fun x hx => List.mem_append_right _ hx)) ?_
      · rw [List.flatten_cons]
        have : (fps.flatten ++ (ownr ++ (fp1 ++ tf))).Perm (fp1 ++ (fps.flatten ++ (ownr ++ tf))) := by
          exact ((List.perm_append_comm_assoc _ _ _).append_left _).trans (List.perm_append_comm_assoc _ _ _)
        rw [List.append_assoc]; exact this.symm
      · exact ⟨v, vs, fp1, fps, rfl, rfl, r1.keep (fun x hx => s2.t x (List.mem_append_left _ hx)) s2.m, w1.mono mem_l, r2.mono mem_r (fun _ z => z) fun _ z => z⟩
theorem sr_ow (ha : SO X W M1 a ca) (hr : SR X W M2 R2 es cr) (hs : starEach (a :: es) X.env = (false, eval a X.env) :: starEach es X.env := by rfl) : SR X W (M1 ++ M2) R2 (a :: es) (aOw ca none cr) := by
  obtain ⟨t, p, q⟩ := ha.go
  obtain ⟨t2, p2, q2⟩ := hr.go
  refine ow_go hs p p2 (fun C fs env σ H tf Q hC G po => q C fs env σ H tf Q hC G ?_) q2
  cases e1 : ca env with
  | err => rw [e1] at po; exact po
  | ex x env' => rw [e1] at po; exact po
  | ok d env1 => rw [e1] at po; exact fun v fs' H' fp G' s r => po v fs' H' fp G' s r trivial
/-- a name handed in that the callee may change -/
theorem sr_io (i : Nat) {x : Str} (hr : SR X W M2 R2 es cr) (hN : X.N[i]? = some x := by rfl) (hv : Vis X.env.scope x := by first | exact Or.inl rfl | exact Or.inr (Or.inl rfl) | exact Or.inr (Or.inr rfl)) (hd : (x == ("__debug__" : Str)) = false := by decide)
    (hcd : (x == ("__classdict__" : Str)) = false := by decide) (hs : starEach (.Name x pos :: es) X.env = (false, eval (.Name x pos) X.env) :: starEach es X.env := by rfl) : SR X W ([i] ++ M2) R2 (.Name x pos :: es) (aOw (cMv i) (some i) cr) := by
  obtain ⟨t2, p2, q2⟩ := hr.go
  refine ow_go hs (pe_var hN hv hd hcd) p2 (fun C fs env σ H tf Q hC G po => ?_) q2
  cases e1 : cMv i env with
  | err => rw [e1] at po; exact po.elim
  | ex x env' => unfold cMv at e1; split at e1 <;> cases e1
  | ok d env1 =>
    rw [e1] at po
    unfold cMv at e1
    split at e1
    · rename_i d' e2
      cases e1
      obtain ⟨v, e3, r⟩ := G.rep i d e2
      refine ⟨v, e3, po v (fs.set i []) H _ (G.mv e2) ⟨fun _ _ => rfl, fun j hj => ?_, fun j hj => ?_, fun _ _ _ _ => rfl, .refl H⟩ r ⟨e3, by simp⟩⟩
      · rw [getD_set fs i j [] (G.lt e2), if_neg (by simpa using hj)]
      · rw [List.getElem?_set, if_neg (by intro z; subst z; simp at hj)]
    · cases e1

/-! ### behind a call -/
def putBack : List AV → List D → Env → Option Env
  | [], [], env => some env
  | .ro _ :: as, os, env => putBack as os env
  | .ow _ (some i) :: as, o :: os, env => putBack as os (env.set i (some o))
  | .ow _ none :: as, _ :: os, env => putBack as os env
  | _, _, _ => none
theorem put_back {Ms Rs : List Nat} {ownr : List Addr} {fsA : FPs} {HA : Hp} (hk : C'.K = C.K) (hm : C'.mg = C.mg) (hl : C'.Lk = C.Lk) : ∀ {avs : List AV} {vs : List V} {fpsA : FPs} {os : List D} {fps : FPs} {fs : FPs} {env env' : Env},
    AOk C HA σ Ms Rs fsA ownr avs vs fpsA → OutR C' H (avs.map AV.io) os vs fps → nols os = true → putBack avs os env = some env' → Good C fs env σ H (fps.flatten ++ tf) → ∃ fs', Good C fs' env' σ H tf ∧ Step Ms tf fs env H fs' env' H
  | [], vs, fpsA, os, fps, fs, env, env', _, ⟨h1, h2⟩, _, hp, G => by
    subst h1 h2
    simp [putBack] at hp; subst hp
    exact ⟨fs, by simpa using G, .refl⟩
  | .ro d :: as, vs, fpsA, os, fps, fs, env, env', ⟨v, vs', fp, fps', e1, e2, r, i, x⟩, ho, hn, hp, G => by
    subst e1
    obtain ⟨w, ws, e3, ho⟩ := ho
    cases e3
    simp only [putBack] at hp
    exact put_back hk hm hl x ho hn hp G
  | .ow d none :: as, vs, fpsA, os, fps, fs, env, env', ⟨v, vs', fp, fps', e1, e2, r, i, x⟩, ho, hn, hp, G => by
    subst e1
    obtain ⟨o, os', w, ws, f, fps2, e3, e4, e5, ro, ho⟩ := ho
    cases e4
    subst e3 e5
    simp only [putBack] at hp
    have hn := Bool.and_eq_true_iff.mp hn
    refine put_back hk hm hl x ho hn.2 hp (G.sub ?_)
    rw [List.flatten_cons, List.append_assoc]; exact List.sublist_append_right _ _
  | .ow d (some j) :: as, vs, fpsA, os, fps, fs, env, env', ⟨v, vs', fp, fps', e1, e2, r, i, x⟩, ho, hn, hp, G => by
    subst e1
    obtain ⟨o, os', w, ws, f, fps2, e3, e4, e5, ro, ho⟩ := ho
    cases e4
    subst e3 e5
    simp only [putBack] at hp
    have hn := Bool.and_eq_true_iff.mp hn
    rw [List.flatten_cons, List.append_assoc] at G
    have ro' := ro.leave hk hm hl hn.1
    have G2 := G.put (i := j) ro'
    have es : σ.set j (some v) = σ := by
      obtain ⟨h1, h2⟩ := List.getElem?_eq_some_iff.mp i.1
      conv => rhs; rw [← List.set_getElem_self (as := σ) (i := j) h1]
      rw [h2]
    rw [es] at G2
    obtain ⟨fs', G3, s3⟩ := put_back hk hm hl x ho hn.2 hp G2
    have s2 := Step.put (i := j) (d := o) G
    refine ⟨fs', G3, ((s2.weak (M' := Ms) (tf' := tf) (fun q hq => ?_) fun x hx => List.mem_append_right _ hx).trans s3).weak (fun q hq => (List.mem_append.mp hq).elim id id) fun _ z => z⟩
    simp at hq; subst hq; exact i.2
theorem good_after {A' : List Addr} (G : Good C fs env σ H1 (A' ++ tf)) (h0 : C'.H0 = H1) (hA : C'.A = A') (hl : C'.Lk = C.Lk) (f : Fr C' H2) (m : Mono H1 H2) : Good C fs env σ H2 tf ∧ (∀ a ∈ fs.flatten ++ tf, H2 a = H1 a) := by
  have keep : ∀ a ∈ fs.flatten ++ tf, H2 a = H1 a := fun a ha => by
    have ha' : a ∈ fs.flatten ++ (A' ++ tf) := by
      rcases List.mem_append.mp ha with z | z
      · exact List.mem_append_left _ z
      · exact List.mem_append_right _ (List.mem_append_right _ z)
    obtain ⟨o, e, mu⟩ := G.trk a ha'
    have nA : a ∉ A' := fun hm => by
      have p : (fs.flatten ++ (A' ++ tf)).Perm (A' ++ (fs.flatten ++ tf)) := by
        rw [← List.append_assoc, ← List.append_assoc]; exact List.perm_append_comm.append_right _
      exact (List.nodup_append.mp (p.nodup_iff.mp G.nd)).2.2 a hm a ha rfl
    rcases f a o (by rw [h0]; exact e) (by rw [hA]; exact nA) with q | ⟨q1, _, ob, q⟩
    · rw [q, e]
    · obtain ⟨ob2, u, z⟩ := G.lk a (by rw [← hl]; exact q1)
      rw [e] at z; cases z; exact mu.elim
  refine ⟨⟨G.le, G.lf, fun i d e => ?_, ?_, fun a ha => G.own a ?_, fun a ha => ?_, fun a o e na => ?_, fun a ha => ?_⟩, keep⟩
  · obtain ⟨v, e1, r⟩ := G.rep i d e
    exact ⟨v, e1, r.keep (fun a ha => keep a (List.mem_append_left _ (mem_flat ha))) m⟩
  · exact G.nd.sublist ((List.Sublist.refl _).append (List.sublist_append_right _ _))
  · rcases List.mem_append.mp ha with z | z
    · exact List.mem_append_left _ z
    · exact List.mem_append_right _ (List.mem_append_right _ z)
  · rw [keep a ha]
    refine G.trk a ?_
    rcases List.mem_append.mp ha with z | z
    · exact List.mem_append_left _ z
    · exact List.mem_append_right _ (List.mem_append_right _ z)
  · have nA : a ∉ A' := fun hm => by
      rcases G.own a (List.mem_append_right _ (List.mem_append_left _ hm)) with q | q
      · exact na q
      · rw [e] at q; cases q
    rcases G.fr a o e na with q | ⟨q1, q2, ob, q⟩
    · rcases f a o (by rw [h0]; exact q) (by rw [hA]; exact nA) with z | ⟨z1, z2, z3⟩
      · exact .inl z
      · exact .inr ⟨by rw [← hl]; exact z1, z2, z3⟩
    · exact .inr ⟨q1, q2, ob, m.z _ _ _ q⟩
  · obtain ⟨ob, u, e⟩ := G.lk a ha
    exact ⟨ob, u, m.z _ _ _ e⟩
/-- new nodes, and those handed back, come to what is held -/
theorem good_come {A' fpn : List Addr} (G1 : Good C fs env σ H1 (A' ++ tf)) (G : Good C fs env σ H2 tf) (nd : fpn.Nodup) (hw : ∀ a ∈ fpn, a ∈ A' ∨ H1 a = none) (tk : ∀ a ∈ fpn, ∃ o, H2 a = some o ∧ Mutb o) : Good C fs env σ H2 (fpn ++ tf) := by
  have p : (fs.flatten ++ (fpn ++ tf)).Perm (fpn ++ (fs.flatten ++ tf)) := by
    rw [← List.append_assoc, ← List.append_assoc]; exact List.perm_append_comm.append_right _
  have p1 : (fs.flatten ++ (A' ++ tf)).Perm (A' ++ (fs.flatten ++ tf)) := by
    rw [← List.append_assoc, ← List.append_assoc]; exact List.perm_append_comm.append_right _
  refine ⟨G.le, G.lf, G.rep, p.nodup_iff.mpr (List.nodup_append.mpr ⟨nd, G.nd, fun a ha b hb e => ?_⟩), fun a ha => ?_, fun a ha => ?_, G.fr, G.lk⟩
  · subst e
    rcases hw a ha with z | z
    · exact (List.nodup_append.mp (p1.nodup_iff.mp G1.nd)).2.2 a z a hb rfl
    · have hb' : a ∈ fs.flatten ++ (A' ++ tf) := p1.mem_iff.mpr (List.mem_append_right _ hb)
      obtain ⟨o, q, _⟩ := G1.trk a hb'
      rw [z] at q; cases q
  · rcases List.mem_append.mp (p.mem_iff.mp ha) with z | z
    · rcases hw a z with w | w
      · exact G1.own a (p1.mem_iff.mpr (List.mem_append_left _ w))
      · exact G1.fr.fresh w
    · exact G.own a z
  · rcases List.mem_append.mp (p.mem_iff.mp ha) with z | z
    · exact tk a z
    · exact G.trk a z
theorem AOk.len {Ms Rs ownr} : ∀ {avs vs fps}, AOk C H σ Ms Rs fs ownr avs vs fps → vs.length = (avs.map AV.io).length
  | [], vs, fps, ⟨h, _⟩ => by subst h; rfl
  | .ro d :: as, vs, fps, ⟨v, vs', fp, fps', e1, e2, r, i, x⟩ => by subst e1; simp [AOk.len x]
  | .ow d wb :: as, vs, fps, ⟨v, vs', fp, fps', e1, e2, r, i, x⟩ => by subst e1; simp [AOk.len x]
theorem AOk.argR {Ms Rs ownr} (E : Enter C C' H) (hd : ∀ b, (b ∈ ownr ∨ ∃ r ∈ Rs, b ∈ fs.getD r []) → b ∉ C'.A) : ∀ {avs vs fps}, AOk C H σ Ms Rs fs ownr avs vs fps → ArgR C' H (avs.map AV.io) (avs.map AV.d) vs fps
  | [], vs, fps, ⟨h1, h2⟩ => ⟨rfl, h1, h2⟩
  | .ro d :: as, vs, fps, ⟨v, vs', fp, fps', e1, e2, r, i, x⟩ => ⟨d.lend, _, v, vs', [], fps', rfl, e1, e2, r.lend E (fun b hb => hd b (i b hb)), .inr rfl, AOk.argR E hd x⟩
  | .ow d wb :: as, vs, fps, ⟨v, vs', fp, fps', e1, e2, r, i, x⟩ => ⟨d, _, v, vs', fp, fps', rfl, e1, e2, r.enter E, .inl rfl, AOk.argR E hd x⟩
theorem OutR.trk : ∀ {io os vs fps}, OutR C H io os vs fps → ∀ a ∈ fps.flatten, ∃ o, H a = some o ∧ Mutb o
  | [], os, vs, fps, ⟨_, h⟩ => by subst h; intro a ha; simp at ha
  | true :: bs, os, vs, fps, ⟨o, os', v, vs', fp, fps', e1, e2, e3, r, x⟩ => by
    subst e3
    intro a ha
    rw [List.flatten_cons] at ha
    exact (List.mem_append.mp ha).elim (r.trk a) (OutR.trk x a)
  | false :: bs, os, vs, fps, ⟨v, vs', e, x⟩ => OutR.trk x
def callEnd (avs : List AV) (env : Env) : FR → R D
  | .ok r os => if r.nol && nols os then (match putBack avs os env with
    | some env' => .ok r env'
    | none => .err) else .err
  | .ex x os => if nols os then (match putBack avs os env with
    | some env' => .ex x env'
    | none => .err) else .err
  | .err => .err
def cCall (φ : List D → FR) (cr : Env → R (List AV)) : CE := fun env => (cr env).bind fun avs env => callEnd avs env (φ (avs.map AV.d))
theorem ExIs.leave {x : Exn} {cv dd} (hk : C'.K = C.K) (hm : C'.mg = C.mg) (hl : C'.Lk = C.Lk) (h : ExIs C' x cv dd H) : ExIs C x cv dd H := by
  obtain ⟨Ca, h1, h2, h3⟩ := h
  refine ⟨Ca, by rw [← hm]; exact h1, h2, ?_⟩
  cases q : x.pay with
  | none => rw [q] at h3; exact h3
  | some fd =>
    rw [q] at h3
    obtain ⟨da, v, e1, e2, e3, r⟩ := h3
    exact ⟨da, v, e1, e2, e3, r.leave hk hm hl e3⟩
/-- the call's reading from the callee's promise -/
theorem call_go {io : List Bool} {φ : List D → FR} {t : TA} {E : L2.St → XK}
    (hE : ∀ σ cls d H, W cls d σ H → E σ cls d H) (hio : ∀ env avs env', cr env = .ok avs env' → avs.map AV.io = io)
    (q : ∀ C fs env σ H tf Q, C.At X → Good C fs env σ H tf → PostR W C M Rs tf fs env σ H Q (cr env) → t σ H Q) (hd : djB Rs [] = true) :
    ∀ C fs env σ H tf Q, C.At X → Good C fs env σ H tf → PostO W C M tf fs env σ H Q (cCall φ cr env) → t σ H fun vs H1 => spF X.K X.mg io φ vs H1 Q (E σ) := by
  intro C fs env σ H tf Q hC G po
  refine q C fs env σ H tf _ hC G ?_
  unfold cCall at po
  cases e1 : cr env with
  | err => rw [e1] at po; exact po
  | ex x env' => rw [e1] at po; exact po
  | ok avs env1 =>
    rw [e1] at po
    intro vs fs1 H1 fps ownr G1 s1 ao
    have hio' := hio env avs env1 e1
    have po1 : PostO W C M tf fs env σ H Q (callEnd avs env1 (φ (avs.map AV.d))) := po
    let C' : Ctx := ⟨X.K, X.mg, H1, fps.flatten, C.Lk⟩
    have hk : C'.K = C.K := hC.1.symm
    have hm : C'.mg = C.mg := hC.2.symm
    have E1 : Enter C C' H1 := ⟨hk, hm, rfl, rfl, G1.fr, fun x hx => ⟨G1.own x (List.mem_append_right _ (List.mem_append_left _ hx)), G1.trk x (List.mem_append_right _ (List.mem_append_left _ hx))⟩⟩
    have dis : ∀ b, (b ∈ ownr ∨ ∃ r ∈ Rs, b ∈ fs1.getD r []) → b ∉ C'.A := fun b hb hm' => by
      have nd := (List.nodup_append.mp G1.nd).2.1
      rcases hb with z | ⟨r, _, z⟩
      · exact (List.nodup_append.mp nd).2.2 b hm' b (List.mem_append_left _ z) rfl
      · exact G1.apartT z (List.mem_append_left _ hm')
    have ar := ao.argR E1 dis
    rw [hio'] at ar
    refine ⟨C.Lk, avs.map AV.d, fps, by rw [ao.len, hio'], ar, (List.nodup_append.mp (List.nodup_append.mp G1.nd).2.1).1, G1.lk, ?_⟩
    have fin : ∀ {H2 : Hp} {os : List D} {fpr : List Addr} {fpso : FPs} {env2 : Env}, Fr C' H2 → Mono H1 H2 → OutR C' H2 io os vs fpso → nols os = true → putBack avs os env1 = some env2 → (fpr ++ fpso.flatten).Nodup → (∀ a ∈ fpr ++ fpso.flatten, a ∈ C'.A ∨ H1 a = none) →
        (∀ a ∈ fpr, ∃ o, H2 a = some o ∧ Mutb o) → ∃ fs2, Good C fs2 env2 σ H2 (fpr ++ tf) ∧ Step M tf fs env H fs2 env2 H2 := by
      intro H2 os fpr fpso env2 f m orr hn hp nd hw tk
      obtain ⟨G2, keep⟩ := good_after (C' := C') G1 rfl rfl rfl f m
      have G2' : Good C fs1 env1 σ H2 tf := G2.drop
      have G3 : Good C fs1 env1 σ H2 ((fpr ++ fpso.flatten) ++ (ownr ++ tf)) := good_come (A' := fps.flatten) G1 G2 nd hw fun a ha => (List.mem_append.mp ha).elim (tk a) (orr.trk a)
      have G4 : Good C fs1 env1 σ H2 (fpso.flatten ++ (fpr ++ tf)) := by
        refine (G3.sub (tf' := (fpr ++ fpso.flatten) ++ tf) ((List.Sublist.refl _).append (List.sublist_append_right _ _))).perm ?_
        rw [← List.append_assoc]; exact List.perm_append_comm.append_right _
      rw [← hio'] at orr
      obtain ⟨fs2, G5, s5⟩ := put_back (C' := C') hk hm rfl ao orr hn hp G4
      refine ⟨fs2, G5, ?_⟩
      have s12 : Step M tf fs1 env1 H1 fs1 env1 H2 := ⟨fun a ha => keep a (List.mem_append_right _ (List.mem_append_right _ ha)), fun _ _ => rfl, fun _ _ => rfl, fun i _ a ha => keep a (List.mem_append_left _ (mem_flat ha)), m⟩
      exact ((s1.trans s12).trans (s5.weak (fun _ z => z) fun x hx => List.mem_append_right _ hx)).weak (fun i hi => by
        rcases List.mem_append.mp hi with z | z
        · exact (List.mem_append.mp z).elim id id
        · exact z) fun _ z => z
    cases e2 : φ (avs.map AV.d) with
    | err => rw [e2] at po1; exact po1.elim
    | ok r os =>
      rw [e2] at po1
      simp only [callEnd] at po1
      split at po1
      · rename_i hn
        have hn := Bool.and_eq_true_iff.mp hn
        cases e3 : putBack avs os env1 with
        | none => rw [e3] at po1; exact po1.elim
        | some env2 =>
          rw [e3] at po1
          intro v H2 fpr fpso f m rr orr nd hw
          obtain ⟨fs2, G2, s2⟩ := fin f m orr hn.2 e3 nd hw rr.trk
          exact po1 v fs2 H2 fpr G2 s2 (rr.leave hk hm rfl hn.1)
      · exact po1.elim
    | ex x os =>
      rw [e2] at po1
      simp only [callEnd] at po1
      split at po1
      · rename_i hn
        cases e3 : putBack avs os env1 with
        | none => rw [e3] at po1; exact po1.elim
        | some env2 =>
          rw [e3] at po1
          intro cv dd H2 fpso f m hx orr nd hw
          obtain ⟨fs2, G2, s2⟩ := fin (fpr := []) f m orr hn e3 (by rw [List.nil_append]; exact nd) (by rw [List.nil_append]; exact hw) fun _ z => nomatch z
          exact hE σ cv dd H2 (po1 cv dd fs2 H2 (by simpa using G2) s2 (hx.leave hk hm rfl))
      · exact po1.elim
end
end VS

set_option maxRecDepth 100000
namespace VS
open PySem L2 SeqAt
/-- arguments with their kinds -/
structure SRI (X : Cx) (W : WX) (M Rs : List Nat) (io : List Bool) (es : List Expr) (c : Env → R (List AV)) : Prop where
  sr : SR X W M Rs es c
  shape : ∀ env avs env', c env = .ok avs env' → avs.map AV.io = io
theorem R.bind_ok {α β : Type} {r : R α} {f : α → Env → R β} {b : β} {env : Env} (h : r.bind f = .ok b env) : ∃ a env1, r = .ok a env1 ∧ f a env1 = .ok b env := by
  cases r with
  | ok a e => exact ⟨a, e, rfl, h⟩
  | ex x e => cases h
  | err => cases h
section
variable {X : Cx} {W : WX} {M M1 M2 M3 V1 V2 V3 Rs R1 R2 R3 : List Nat} {e a b c tg : Expr} {es : List Expr} {ca cb cc : CE} {pos p : Pos} {cr : Env → R (List AV)} {io : List Bool}
theorem sri_nil : SRI X W [] [] [] [] aNil := ⟨sr_nil, fun env avs env' h => by cases h; rfl⟩
theorem sri_ro (ha : SB X W M1 R1 a ca) (hr : SRI X W M2 R2 io es cr) (hd : djB R1 M2 = true := by decide) (hs : starEach (a :: es) X.env = (false, eval a X.env) :: starEach es X.env := by rfl) : SRI X W (M1 ++ M2) (R1 ++ R2) (false :: io) (a :: es) (aRo ca cr) :=
  ⟨sr_ro ha hr.sr hd hs, fun env avs env' h => by
    obtain ⟨d, e1, h1, h2⟩ := R.bind_ok h
    obtain ⟨as, e2, h3, h4⟩ := R.bind_ok h2
    cases h4
    simp [AV.io, hr.shape _ _ _ h3]⟩
theorem ow_shape {wb} (hr : SRI X W M2 R2 io es cr) : ∀ env avs env', aOw ca wb cr env = .ok avs env' → avs.map AV.io = true :: io := fun env avs env' h => by
  obtain ⟨d, e1, h1, h2⟩ := R.bind_ok h
  obtain ⟨as, e2, h3, h4⟩ := R.bind_ok h2
  cases h4
  simp [AV.io, hr.shape _ _ _ h3]
theorem sri_ow (ha : SO X W M1 a ca) (hr : SRI X W M2 R2 io es cr) (hs : starEach (a :: es) X.env = (false, eval a X.env) :: starEach es X.env := by rfl) : SRI X W (M1 ++ M2) R2 (true :: io) (a :: es) (aOw ca none cr) :=
  ⟨sr_ow ha hr.sr hs, ow_shape hr⟩
theorem sri_io (i : Nat) {x : Str} (hr : SRI X W M2 R2 io es cr) (hN : X.N[i]? = some x := by rfl) (hv : Vis X.env.scope x := by first | exact Or.inl rfl | exact Or.inr (Or.inl rfl) | exact Or.inr (Or.inr rfl)) (hd : (x == ("__debug__" : Str)) = false := by decide)
    (hcd : (x == ("__classdict__" : Str)) = false := by decide) (hs : starEach (.Name x pos :: es) X.env = (false, eval (.Name x pos) X.env) :: starEach es X.env := by rfl) : SRI X W ([i] ++ M2) R2 (true :: io) (.Name x pos :: es) (aOw (cMv i) (some i) cr) :=
  ⟨sr_io i hr.sr hN hv hd hcd hs, ow_shape hr⟩
/-- a def of the module that comes to φ -/
def Fd (P : Program) (w : World) (K : PySem.W.Frag) (mg : Str → Option Value) (base : Heap) (k : Nat) (x : Str) (ps : List Str) (io : List Bool) (φ : List D → FR) : Prop :=
  ∃ (f : Addr) (fd : FuncData), FnOk P w K mg base (L2.CX P w) k f fd ps (spF K mg io φ) ∧ mg x = some (.ref f) ∧ PySem.W.keepIn K (.ref f) = true ∧ Binds K fd ps []
theorem so_call {k : Nat} {x : Str} {ps : List Str} {φ : List D → FR} {pf : Pos} (F : Fd X.prog X.w X.K X.mg X.base k x ps io φ) (hr : Room k X.A) (tk : Takes X W) (ha : SRI X W M Rs io (e :: es) cr) (hg : Gl X x := by rfl)
    (hdb : (x == ("__debug__" : Str)) = false := by decide) (he : starEach (e :: es) X.env = (false, eval e X.env) :: starEach es X.env := by rfl) (hpl : (backTo pos (starEach es X.env)).any (·.1) = false := by rfl) :
    SO X W M (.Call (.Name x pf) (e :: es) [] pos) (cCall φ cr) := by
  obtain ⟨f, fd, G, hm, hk, hb⟩ := F
  obtain ⟨t, p, q⟩ := ha.sr.go
  refine ⟨tCallS (spF X.K X.mg io φ) (WE W) t, pe_callS G hr hg hm hk hb (fun σ => passAt tk σ) p hdb he hpl, ?_⟩
  exact call_go (E := WE W) (fun _ _ _ _ h => h) ha.shape q (by unfold djB; simp)
end

/-! ### the law's end -/
def spLaw (K : PySem.W.Frag) : Sp := fun vs H Q _ => ∃ (a : Addr) (ns : List Int), vs = [.ref a] ∧ SqL K H a (ns.map V.int) ∧ ns.length ≤ 63 ∧ (∀ z ∈ ns, Builtin.Int.intBits z ≤ 1048576) ∧ ∀ H', Q (.bl true) H'
theorem reps_ints {C : Ctx} {H : Hp} : ∀ ns : List Int, Reps C H (ns.map D.int) (ns.map V.int) []
  | [] => ⟨rfl, rfl⟩
  | n :: ns => ⟨.int n, ns.map V.int, [], [], rfl, ⟨rfl, rfl⟩, reps_ints ns, rfl⟩
theorem law_imp {P : Program} {w : World} {K : PySem.W.Frag} {mg : Str → Option Value} {base : Heap} {k : Nat} {f : Addr} {fd : FuncData} {x : Str} {φ : List D → FR} (F : FnOk P w K mg base (L2.CX P w) k f fd [x] (spF K mg [false] φ))
    (h : ∀ ns : List Int, ns.length ≤ 63 → (∀ z ∈ ns, Builtin.Int.intBits z ≤ 1048576) → φ [.lst .l (ns.map D.int)] = .ok (.bl true) []) : FnOk P w K mg base (L2.CX P w) k f fd [x] (spLaw K) := by
  refine F.imp fun vs H Q E ⟨a, ns, e, sq, h1, h2, q⟩ => ?_
  subst e
  refine ⟨[], [.lst .l (ns.map D.int)], [[]], rfl, ?_, by simp, (fun _ z => nomatch z), ?_⟩
  · refine ⟨_, [], _, [], [], [], rfl, rfl, rfl, ⟨a, ns.map V.int, [], [], rfl, ⟨?_, rfl⟩, reps_ints ns, .inr rfl, rfl⟩, .inr rfl, ⟨rfl, rfl, rfl⟩⟩
    rcases sq with z | z
    · exact .inl ⟨z, by simp⟩
    · exact .inr ⟨_, rfl, z⟩
  · rw [h ns h1 h2]
    intro v H' fp fps _ _ r _ _ _
    obtain ⟨rfl, _⟩ := r
    exact q H'
/-- the facts of a def that the top has left -/
theorem def_in {K : PySem.W.Frag} {h : Heap} {mg : Str → Option Value} {x : Str} {st : Stmt} {f : Addr} {oc : Value} {od an : Option Addr} {osl : Array (Option Value)} {kV doc pm cdv ct : Value} (X : K.In h) (G : h.Ns mainGlobals mg)
    (a : PySem.W.nsIn K mainGlobals x = some (some (.ref f))) (l : K.lookup f = some ⟨oc, od, .func (PySem.W.fnOf x x (defArgs st) (defBody st) (defScope st) .none kV doc pm an cdv ct), osl⟩)
    (c : PySem.W.codeIn K cdv x = true) (k : PySem.W.keepIn K (.ref f) = true) : ∃ fd, Fun K x x st f fd ∧ mg x = some (.ref f) ∧ fd = PySem.W.fnOf x x (defArgs st) (defBody st) (defScope st) .none kV doc pm an cdv ct :=
  ⟨_, fun_mk l c k, PySem.W.mg_of X G a, rfl⟩
theorem fd_mk {P : Program} {w : World} {K : PySem.W.Frag} {mg : Str → Option Value} {base : Heap} {k : Nat} {x : Str} {st : Stmt} {f : Addr} {fd : FuncData} {ps : List Str} {io : List Bool} {φ : List D → FR} (F : Fun K x x st f fd) (hm : mg x = some (.ref f)) (hb : Binds K fd ps [])
    (h : FnOk P w K mg base (L2.CX P w) k f fd ps (spF K mg io φ)) : Fd P w K mg base k x ps io φ := ⟨f, fd, h, hm, F.kp, hb⟩
theorem Fd.mono {P : Program} {w : World} {K : PySem.W.Frag} {mg : Str → Option Value} {base : Heap} {j k : Nat} {x : Str} {ps : List Str} {io : List Bool} {φ : List D → FR} (F : Fd P w K mg base j x ps io φ) (h : j ≤ k) : Fd P w K mg base k x ps io φ :=
  let ⟨f, fd, G, a, b, c⟩ := F
  ⟨f, fd, G.mono h, a, b, c⟩
theorem walkL {l : PySem.W.OpenLaw} {k : Nat} {q : Program} {loose : List Str} {XP : (Str → Option Value) → Heap → Prop} {YP : World → Heap → Prop} {d : DefRec} {K : Params → PySem.W.Frag} {x : Str}
    (hn : l.most = some 63) (hdf : d.params.defaults = []) (hr : Room k callerA)
    (hY : ∀ (w : World) (h : Heap), YP w h → (K w.params).In h)
    (F : ∀ (w : World) (mg : Str → Option Value) (fa : Addr) (h : Heap), (K w.params).In h → h.Ns mainGlobals mg → mg d.name = some (.ref fa) →
      ∃ fd : FuncData, (∀ (s : Shared) (u : Value), BindsTo s fd ⟨[u], []⟩ [(x, u)]) ∧ ∀ base : Heap, (K w.params).In base → base.Ns mainGlobals mg → FnOk l.prog w (K w.params) mg base (L2.CX l.prog w) k fa fd [x] (spLaw (K w.params))) :
    PySem.W.WalkO q loose XP YP l.row.toRowW d [] (fun f vs => PySem.call f vs) :=
  walk_ofB (n := 63) (k := k) (x := x) (CX := fun w => L2.CX l.prog w) (sp := fun w => spLaw (K w.params)) hn (by decide) hdf hr hY F (fun _ _ a ns hl hb _ hS => ⟨a, ns, rfl, hS, hl, hb, fun _ => rfl⟩) fun _ _ _ _ _ z => by
    obtain ⟨_, _, _, _, _, _, _, _, _, _, _, _, h⟩ := z
    exact h
end VS

set_option maxRecDepth 100000
namespace VS
open PySem L2 SeqAt

/-- the tree d' (value v', nodes fp') within d (value v, nodes g1 ++ fp' ++ g2); F puts another one in its place -/
structure Foc (C : Ctx) (H : Hp) (d : D) (v : V) (g1 : List Addr) (d' : D) (v' : V) (fp' g2 : List Addr) (F : D → D) : Prop where
  here : Rep C H d' v' fp'
  back : ∀ H' d'' fp'', Mono H H' → (∀ a ∈ g1 ++ g2, H' a = H a) → Rep C H' d'' v' fp'' → Rep C H' (F d'') v (g1 ++ fp'' ++ g2)
def PostL (W : WX) (C : Ctx) (i : Nat) (M : List Nat) (tf : List Addr) (fs : FPs) (env : Env) (σ : St) (H : Hp) (Q : VK) : R (D × (D → D)) → Prop
  | .ok dF env' => ∀ v' fs' H' d v g1 fp' g2, Good C fs' env' σ H' tf → Step M tf fs env H fs' env' H' → env'[i]? = some (some d) → σ[i]? = some (some v) → fs'.getD i [] = g1 ++ fp' ++ g2 → Foc C H' d v g1 dF.1 v' fp' g2 dF.2 → Q v' H'
  | .ex x env' => ∀ cv dd fs' H', Good C fs' env' σ H' tf → Step M tf fs env H fs' env' H' → ExIs C x cv dd H' → W cv dd σ H'
  | .err => False
abbrev CL := Env → R (D × (D → D))
/-- a place within slot i -/
structure SL (X : Cx) (W : WX) (i : Nat) (M : List Nat) (e : Expr) (c : CL) : Prop where
  go : ∃ t, PE X e t ∧ ∀ C fs env σ H tf Q, C.At X → Good C fs env σ H tf → PostL W C i M tf fs env σ H Q (c env) → t σ H Q

section
variable {X : Cx} {W : WX} {M M1 M2 M3 V1 V2 V3 Rs R1 R2 R3 : List Nat} {e a b c tg o : Expr} {es : List Expr} {ca cb cc : CE} {cs : CA} {pos p : Pos} {cl : CL} {i : Nat}
variable {pins : List (Addr × Obj)} {σ : St} {H H1 H2 H' : Hp} {s : Shared} {C C' : Ctx} {fs fs1 fs2 : FPs} {env env1 env2 : Env} {tf tf' own : List Addr}

theorem foc_self {d v fp} (r : Rep C H d v fp) : Foc C H d v [] d v fp [] id := ⟨r, fun H' d'' fp'' _ _ r' => by simpa using r'⟩
theorem Foc.keep {d v g1 d' v' fp' g2 F} (f : Foc C H d v g1 d' v' fp' g2 F) (m : Mono H H') (k : ∀ a ∈ g1 ++ fp' ++ g2, H' a = H a) : Foc C H' d v g1 d' v' fp' g2 F :=
  ⟨f.here.keep (fun a ha => k a (by simp [ha])) m, fun H2 d'' fp'' m2 k2 r => f.back H2 d'' fp'' (m.trans m2) (fun a ha => (k2 a ha).trans (k a (by
    rcases List.mem_append.mp ha with z | z <;> simp [z]))) r⟩
theorem Foc.comp {d v g1 d1 v1 fp1 g2 F h1 d2 v2 fp2 h2 G} (f : Foc C H d v g1 d1 v1 fp1 g2 F) (g : Foc C H d1 v1 h1 d2 v2 fp2 h2 G) (e : fp1 = h1 ++ fp2 ++ h2) : Foc C H d v (g1 ++ h1) d2 v2 fp2 (h2 ++ g2) (F ∘ G) := by
  refine ⟨g.here, fun H' d'' fp'' m k r => ?_⟩
  have r1 := g.back H' d'' fp'' m (fun a ha => k a (by rcases List.mem_append.mp ha with z | z <;> simp [z])) r
  have r2 := f.back H' (G d'') _ m (fun a ha => k a (by rcases List.mem_append.mp ha with z | z <;> simp [z])) r1
  simpa [List.append_assoc] using r2
theorem reps_set : ∀ {ds : List D} {vs : List V} {fp : List Addr} {j : Nat} {x : D}, Reps C H ds vs fp → ds[j]? = some x → ∃ w g1 f g2, vs[j]? = some w ∧ Rep C H x w f ∧ fp = g1 ++ f ++ g2 ∧
    ∀ H' y w' f', Mono H H' → (∀ a ∈ g1 ++ g2, H' a = H a) → Rep C H' y w' f' → Reps C H' (ds.set j y) (vs.set j w') (g1 ++ f' ++ g2)
  | [], vs, fp, j, x, _, h => by simp at h
  | d :: ds, vs, fp, 0, x, ⟨v, vs', f1, f2, e, r, rs, e2⟩, h => by
    simp at h; subst h; subst e
    refine ⟨v, [], f1, f2, by simp, r, by simpa using e2, fun H' y w' f' m k r' => ?_⟩
    exact ⟨w', vs', f', f2, rfl, r', rs.keep (fun a ha => k a (by simp [ha])) m, by simp⟩
  | d :: ds, vs, fp, j + 1, x, ⟨v, vs', f1, f2, e, r, rs, e2⟩, h => by
    subst e
    obtain ⟨w, g1, f, g2, h1, h2, h3, h4⟩ := reps_set (j := j) rs (by simpa using h)
    refine ⟨w, f1 ++ g1, f, g2, by simpa using h1, h2, by rw [e2, h3]; simp [List.append_assoc], fun H' y w' f' m k r' => ?_⟩
    exact ⟨v, _, f1, g1 ++ f' ++ g2, rfl, r.keep (fun a ha => k a (by simp [ha])) m, h4 H' y w' f' m (fun a ha => k a (by rcases List.mem_append.mp ha with z | z <;> simp [z])) r', by simp [List.append_assoc]⟩
def idxK : List Key → Key → Option Nat
  | [], _ => none
  | k0 :: ks, k => if k0 = k then some 0 else (idxK ks k).map (· + 1)
theorem idx_val : ∀ {kvs : List (Key × V)} {k : Key} {j : Nat}, idxK (kvs.map (·.1)) k = some j → valV kvs k = (kvs[j]?).map (·.2) ∧ j < kvs.length
  | [], k, j, h => by simp [idxK] at h
  | kv :: kvs, k, j, h => by
    simp only [List.map_cons, idxK] at h
    by_cases e : kv.1 = k
    · rw [if_pos e] at h; cases h
      exact ⟨by rw [valV_pos e]; simp, by simp⟩
    · rw [if_neg e] at h
      obtain ⟨j', h', rfl⟩ := Option.map_eq_some_iff.mp h
      obtain ⟨h1, h2⟩ := idx_val h'
      exact ⟨by rw [valV_neg e, h1]; simp, by simp; omega⟩
theorem idx_none : ∀ {kvs : List (Key × V)} {k : Key}, idxK (kvs.map (·.1)) k = none → valV kvs k = none
  | [], k, h => rfl
  | kv :: kvs, k, h => by
    simp only [List.map_cons, idxK] at h
    by_cases e : kv.1 = k
    · rw [if_pos e] at h; cases h
    · rw [if_neg e] at h
      rw [valV_neg e]
      exact idx_none (by simpa using h)
theorem idx_nodup : ∀ {kvs : List (Key × V)} {k : Key} {j : Nat} {v : V}, (kvs.map (·.1)).Nodup → idxK (kvs.map (·.1)) k = some j → putK kvs k v = kvs.set j (k, v)
  | [], k, j, v, _, h => by simp [idxK] at h
  | kv :: kvs, k, j, v, nd, h => by
    have h0 := h
    simp only [List.map_cons, idxK] at h
    simp only [List.map_cons, List.nodup_cons] at nd
    by_cases e : kv.1 = k
    · rw [if_pos e] at h; cases h
      unfold putK
      have : ((kv :: kvs).any fun kv => decide (kv.1 = k)) = true := by simp [e]
      rw [if_pos this]
      simp only [List.map_cons, List.set_cons_zero]
      rw [if_pos e, e]
      congr 1
      have key : ∀ x ∈ kvs, (if x.1 = k then (x.1, v) else x) = x := fun x hx => by
        have : ¬ x.1 = k := fun z => nd.1 (List.mem_map.mpr ⟨x, hx, z.trans e.symm⟩)
        rw [if_neg this]
      rw [List.map_congr_left key]; simp
    · rw [if_neg e] at h
      obtain ⟨j', h', rfl⟩ := Option.map_eq_some_iff.mp h
      have ih := idx_nodup (v := v) nd.2 h'
      have hv := idx_val h'
      unfold putK at ih ⊢
      have a1 : (kvs.any fun kv => decide (kv.1 = k)) = true := by
        rw [valV_any, hv.1, List.getElem?_eq_getElem hv.2]; rfl
      have a2 : ((kv :: kvs).any fun kv => decide (kv.1 = k)) = true := by simp [a1]
      rw [if_pos a1] at ih
      rw [if_pos a2]
      simp only [List.map_cons, List.set_cons_succ]
      rw [if_neg e, ih]

/-! ### places -/
def lVar (i : Nat) : CL := fun env => match env[i]? with
  | some (some d) => .ok (d, id) env
  | _ => .err
theorem sl_var (i : Nat) {x : Str} (hN : X.N[i]? = some x := by rfl) (hv : Vis X.env.scope x := by first | exact Or.inl rfl | exact Or.inr (Or.inl rfl) | exact Or.inr (Or.inr rfl)) (hd : (x == ("__debug__" : Str)) = false := by decide)
    (hcd : (x == ("__classdict__" : Str)) = false := by decide) : SL X W i [] (.Name x pos) (lVar i) := by
  refine ⟨tVar i, pe_var hN hv hd hcd, fun C fs env σ H tf Q hC G po => ?_⟩
  unfold lVar at po
  split at po
  · rename_i d e1
    obtain ⟨v, e2, r⟩ := G.rep i d e1
    exact ⟨v, e2, po v fs H d v [] (fs.getD i []) [] G .refl e1 e2 (by simp) (foc_self r)⟩
  · exact po.elim
/-- the j-th child of a node of ours -/
def kidD : D → D → Option (D × (D → D))
  | .lst .m ds, .int k => (ixN ds.length k).bind fun j => (ds[j]?).map fun x => (x, fun y => .lst .m (ds.set j y))
  | .dct .m ks ds, k => k.key.bind fun k => (idxK ks k).bind fun j => (ds[j]?).map fun x => (x, fun y => .dct .m ks (ds.set j y))
  | _, _ => none
def lIdx (cl : CL) (cb : CE) : CL := fun env => (cl env).bind fun dF env => (cb env).bind fun y env => match kidD dF.1 y with
  | some (x, G) => .ok (x, dF.2 ∘ G) env
  | none => .err
theorem foc_kid {d y x : D} {G : D → D} {v w : V} {fp fw} (hC : C.At X) (hF : Fr C H) (r : Rep C H d v fp) (ry : Rep C H y w fw) (h : kidD d y = some (x, G)) :
    ∃ v' g1 fp' g2, fp = g1 ++ fp' ++ g2 ∧ Foc C H d v g1 x v' fp' g2 G ∧ ∀ Q : VK, Q v' H → (rIx X.K v w H Q ∨ rIxD v w H Q) := by
  unfold kidD at h
  split at h
  · rename_i ds k
    obtain ⟨j, hj, h⟩ := Option.bind_eq_some_iff.mp h
    obtain ⟨x', hx, h⟩ := Option.map_eq_some_iff.mp h
    cases h
    have r0 := r
    obtain ⟨a, vs, f1, f2, rfl, ⟨hH, rfl⟩, rs, _, rfl⟩ := r
    obtain ⟨rfl, _⟩ := ry
    obtain ⟨w', g1, f, g2, h1, h2, h3, h4⟩ := reps_set rs hx
    refine ⟨w', a :: g1, f, g2, by rw [h3]; simp, ⟨h2, fun H' y f' m k' r' => ?_⟩, fun Q q => .inl (.inl ⟨a, vs, k, w', rfl, rfl, SqL.of hH, ?_, q⟩)⟩
    · have hs := h4 H' y w' f' m (fun b hb => k' b (by simp at hb ⊢; rcases hb with z | z <;> simp [z])) r'
      have e : vs.set j w' = vs := by
        obtain ⟨q1, q2⟩ := List.getElem?_eq_some_iff.mp h1
        conv => rhs; rw [← List.set_getElem_self (as := vs) (i := j) q1]
        rw [q2]
      rw [e] at hs
      exact ⟨a, vs, [a], _, rfl, ⟨by rw [k' a (by simp)]; exact hH, rfl⟩, hs, .inl rfl, by simp⟩
    · unfold atI
      rw [← reps_length rs, hj]; exact h1
  · rename_i ks ds _
    obtain ⟨ky, hk, h⟩ := Option.bind_eq_some_iff.mp h
    obtain ⟨j, hj, h⟩ := Option.bind_eq_some_iff.mp h
    obtain ⟨x', hx, h⟩ := Option.map_eq_some_iff.mp h
    cases h
    obtain ⟨a, kvs, f1, f2, rfl, ⟨hH, rfl⟩, hks, rs, _, rfl⟩ := r
    obtain ⟨w', g1, f, g2, h1, h2, h3, h4⟩ := reps_set rs hx
    have ey := key_of hk ry
    have hks0 := hks
    rw [← hks.1] at hj
    obtain ⟨hv1, hv2⟩ := idx_val hj
    have hw : valV kvs ky = some w' := by rw [hv1]; rw [List.getElem?_map] at h1; exact h1
    refine ⟨w', a :: g1, f, g2, by rw [h3]; simp, ⟨h2, fun H' y f' m k' r' => ?_⟩, fun Q q => .inr ⟨a, w', rfl, .inl ⟨kvs, ky, .inl hH, ey, hw.symm⟩, q⟩⟩
    have hs := h4 H' y w' f' m (fun b hb => k' b (by simp at hb ⊢; rcases hb with z | z <;> simp [z])) r'
    have e : (kvs.map (·.2)).set j w' = kvs.map (·.2) := by
      obtain ⟨q1, q2⟩ := List.getElem?_eq_some_iff.mp h1
      conv => rhs; rw [← List.set_getElem_self (as := kvs.map (·.2)) (i := j) q1]
      rw [q2]
    rw [e] at hs
    exact ⟨a, kvs, [a], _, rfl, ⟨by rw [k' a (by simp)]; exact hH, rfl⟩, hks, hs, .inl rfl, by simp⟩
  · cases h
theorem sl_idx {k : Nat} (hr : Room k X.A) (ha : SL X W i M1 a cl) (hb : SB X W M2 R2 b cb) (hs : PlainIx b := by exact fun _ _ => rfl) (hi : djB [i] M2 = true := by decide) : SL X W i (M1 ++ M2) (.Subscript a b pos) (lIdx cl cb) := by
  obtain ⟨t, p, q⟩ := ha.go
  obtain ⟨t2, p2, q2⟩ := hb.go
  refine ⟨tOp (fun x y H Q => rIx X.K x y H Q ∨ rIxD x y H Q) t t2, pe_ix (ix_seq.or (ix_dict hr)) p p2 hs, fun C fs env σ H tf Q hC G po => ?_⟩
  refine q C fs env σ H tf _ hC G ?_
  unfold lIdx at po
  cases e1 : cl env with
  | err => rw [e1] at po; exact po
  | ex x env' => rw [e1] at po; exact fun cv dd fs' H' G' s => po cv dd fs' H' G' (s.weak mem_l fun _ z => z)
  | ok dF env1 =>
    rw [e1] at po
    intro v' fs1 H1 d v g1 fp' g2 G1 s1 hd hv hf Fo
    refine q2 C fs1 env1 σ H1 tf _ hC G1 ?_
    have po1 : PostL W C i (M1 ++ M2) tf fs env σ H Q ((cb env1).bind fun y env => match kidD dF.1 y with
      | some (x, G) => .ok (x, dF.2 ∘ G) env
      | none => .err) := po
    cases e2 : cb env1 with
    | err => rw [e2] at po1; exact po1
    | ex x env' => rw [e2] at po1; exact fun cv dd fs' H' G' s => po1 cv dd fs' H' G' (s1.trans s)
    | ok y env2 =>
      rw [e2] at po1
      intro w fs2 H2 fw own G2 s2 rw' iw
      have ni : i ∉ M2 := djB_ok hi i (by simp)
      have Fo2 := Fo.keep s2.m (fun a ha => s2.h i ni a (by rw [hf]; exact ha))
      have po2 : PostL W C i (M1 ++ M2) tf fs env σ H Q (match kidD dF.1 y with
        | some (x, G) => .ok (x, dF.2 ∘ G) env2
        | none => .err) := po1
      cases e3 : kidD dF.1 y with
      | none => rw [e3] at po2; exact po2.elim
      | some xG =>
        rw [e3] at po2
        obtain ⟨x, Gf⟩ := xG
        obtain ⟨v2, h1, f2, h2, ef, F2, rd⟩ := foc_kid hC G2.fr Fo2.here rw' e3
        refine rd Q ?_
        refine po2 v2 fs2 H2 d v (g1 ++ h1) f2 (h2 ++ g2) G2.drop (s1.trans s2) (by rw [s2.e i ni]; exact hd) hv ?_ (Fo2.comp F2 ef)
        rw [s2.f i ni, hf, ef]; simp [List.append_assoc]

/-! ### a change at a place -/
theorem Good.mut {d v g1 d' v' fp' g2 F d'' fp'' fx} (G : Good C fs env σ H (fx ++ tf)) (e1 : env[i]? = some (some d)) (e2 : σ[i]? = some (some v)) (e3 : fs.getD i [] = g1 ++ fp' ++ g2) (Fo : Foc C H d v g1 d' v' fp' g2 F)
    (m : Mono H H') (ch : ∀ a o, H a = some o → a ∉ fp' → H' a = some o) (r : Rep C H' d'' v' fp'') (nd : (fp'' ++ tf').Nodup) (sub : ∀ a ∈ fp'' ++ tf', a ∈ fp' ∨ a ∈ fx ++ tf ∨ H a = none) (tk : ∀ a ∈ tf', ∃ o, H' a = some o ∧ Mutb o) :
    Good C (fs.set i (g1 ++ fp'' ++ g2)) (env.set i (some (F d''))) σ H' tf' := by
  have hl := G.lt e1
  have hle : i < env.length := by rw [G.le, ← G.lf]; exact hl
  -- the footprints that stay
  have p0 := flat_get fs hl
  have stay : ∀ a, (a ∈ g1 ++ g2 ∨ a ∈ (fs.set i []).flatten) → a ∉ fp' ∧ a ∉ fx ++ tf ∧ ∃ o, H a = some o ∧ Mutb o := by
    intro a ha
    have hm : a ∈ fs.flatten := by
      rcases ha with z | z
      · refine p0.mem_iff.mpr (List.mem_append_left _ ?_)
        rw [e3]; rcases List.mem_append.mp z with z | z <;> simp [z]
      · exact p0.mem_iff.mpr (List.mem_append_right _ z)
    refine ⟨fun hx => ?_, fun hx => (List.nodup_append.mp G.nd).2.2 a hm a hx rfl, G.trk a (List.mem_append_left _ hm)⟩
    have nd1 := p0.nodup_iff.mp (List.nodup_append.mp G.nd).1
    rw [e3] at nd1
    rcases ha with z | z
    · have := (List.nodup_append.mp nd1).1
      have pp : (g1 ++ fp' ++ g2).Perm (fp' ++ (g1 ++ g2)) := by
        rw [List.append_assoc]; exact List.perm_append_comm_assoc _ _ _
      exact (List.nodup_append.mp (pp.nodup_iff.mp this)).2.2 a hx a z rfl
    · exact (List.nodup_append.mp nd1).2.2 a (by simp [hx]) a z rfl
  have keep : ∀ a, (a ∈ g1 ++ g2 ∨ a ∈ (fs.set i []).flatten) → H' a = H a := fun a ha => by
    obtain ⟨h1, _, o, e, _⟩ := stay a ha
    rw [e]; exact ch a o e h1
  have p1 := flat_set fs hl (g1 ++ fp'' ++ g2)
  have pt : ((fs.set i (g1 ++ fp'' ++ g2)).flatten ++ tf').Perm ((g1 ++ g2) ++ (fs.set i []).flatten ++ (fp'' ++ tf')) := by
    refine (p1.append_right tf').trans ?_
    have a1 : (g1 ++ fp'' ++ g2).Perm ((g1 ++ g2) ++ fp'') := by
      rw [List.append_assoc, List.append_assoc]; exact List.perm_append_comm.append_left g1
    refine ((a1.append_right _).append_right _).trans ?_
    simp only [List.append_assoc]
    refine List.Perm.append_left _ (List.Perm.append_left _ ?_)
    exact List.perm_append_comm_assoc _ _ _
  refine ⟨by simpa using G.le, by simpa using G.lf, fun j dj ej => ?_, pt.nodup_iff.mpr (List.nodup_append.mpr ⟨?_, nd, fun a ha b hb eab => ?_⟩), fun a ha => ?_, fun a ha => ?_, ?_, fun a ha => ?_⟩
  · rw [List.getElem?_set] at ej
    by_cases hj : i = j
    · subst hj
      simp [hle] at ej; subst ej
      refine ⟨v, e2, ?_⟩
      rw [getD_set fs i i _ hl, if_pos rfl]
      exact Fo.back H' d'' fp'' m (fun a ha => keep a (.inl ha)) r
    · rw [if_neg hj] at ej
      obtain ⟨w, h1, h2⟩ := G.rep j dj ej
      refine ⟨w, h1, ?_⟩
      rw [getD_set fs i j _ hl, if_neg (Ne.symm hj)]
      refine h2.keep (fun a ha => keep a (.inr ?_)) m
      have : a ∈ (fs.set i []).getD j [] := by rw [getD_set fs i j _ hl, if_neg (Ne.symm hj)]; exact ha
      exact mem_flat this
  · have nd1 := p0.nodup_iff.mp (List.nodup_append.mp G.nd).1
    rw [e3] at nd1
    refine nd1.sublist ?_
    refine List.Sublist.append ?_ (List.Sublist.refl _)
    exact List.Sublist.append (List.sublist_append_left _ _) (List.Sublist.refl _)
  · subst eab
    obtain ⟨h1, h2, o, e, _⟩ := stay a (List.mem_append.mp ha)
    rcases sub a hb with z | z | z
    · exact h1 z
    · exact h2 z
    · rw [z] at e; cases e
  · have := pt.mem_iff.mp ha
    rcases List.mem_append.mp this with z | z
    · rcases List.mem_append.mp z with z | z
      · refine G.own a (List.mem_append_left _ (p0.mem_iff.mpr (List.mem_append_left _ ?_)))
        rw [e3]; rcases List.mem_append.mp z with z | z <;> simp [z]
      · exact G.own a (List.mem_append_left _ (p0.mem_iff.mpr (List.mem_append_right _ z)))
    · rcases sub a z with w | w | w
      · refine G.own a (List.mem_append_left _ (p0.mem_iff.mpr (List.mem_append_left _ ?_)))
        rw [e3]; simp [w]
      · exact G.own a (List.mem_append_right _ w)
      · exact G.fr.fresh w
  · have := pt.mem_iff.mp ha
    rcases List.mem_append.mp this with z | z
    · obtain ⟨_, _, o, e, mu⟩ := stay a (List.mem_append.mp z)
      exact ⟨o, by rw [keep a (List.mem_append.mp z)]; exact e, mu⟩
    · rcases List.mem_append.mp z with z | z
      · exact r.trk a z
      · exact tk a z
  · intro a o e na
    rcases G.fr a o e na with q | ⟨q1, q2, ob, q⟩
    · refine .inl (ch a o q fun hx => ?_)
      have : a ∈ fs.flatten := p0.mem_iff.mpr (List.mem_append_left _ (by rw [e3]; simp [hx]))
      rcases G.own a (List.mem_append_left _ this) with w | w
      · exact na w
      · rw [e] at w; cases w
    · exact .inr ⟨q1, q2, ob, m.z _ _ _ q⟩
  · obtain ⟨ob, u, e⟩ := G.lk a ha
    exact ⟨ob, u, m.z _ _ _ e⟩
theorem Step.mut {d : D} {g1 fp' g2 fx : List Addr} {dn : D} {fn : List Addr} (G : Good C fs env σ H (fx ++ tf)) (e1 : env[i]? = some (some d)) (e3 : fs.getD i [] = g1 ++ fp' ++ g2)
    (m : Mono H H') (ch : ∀ a o, H a = some o → a ∉ fp' → H' a = some o) : Step [i] tf fs env H (fs.set i fn) (env.set i (some dn)) H' := by
  have hl := G.lt e1
  have inf : ∀ a ∈ fp', a ∈ fs.getD i [] := fun a ha => by rw [e3]; simp [ha]
  refine ⟨fun a ha => ?_, fun j hj => ?_, fun j hj => ?_, fun j hj a ha => ?_, m⟩
  · obtain ⟨o, e, _⟩ := G.trk a (by simp [ha])
    rw [e]; exact ch a o e fun hx => G.apartT (inf a hx) (by simp [ha])
  · rw [getD_set fs i j _ hl, if_neg (by simpa using hj)]
  · rw [List.getElem?_set, if_neg (by intro z; subst z; simp at hj)]
  · obtain ⟨o, e, _⟩ := G.trk a (List.mem_append_left _ (mem_flat ha))
    rw [e]; exact ch a o e fun hx => G.apart (by simpa using hj) ha (inf a hx)

/-- a method of Python's own that changes its object -/
structure MuOk (X : Cx) (T : String) (r : V → List V → Hp → VK → Prop) (kd : D → Bool) (mp : D → List D → Option (D × D)) : Prop where
  run : ∀ C H v d fp vs ds fpa Q d' res, C.At X → Fr C H → Rep C H d v fp → Reps C H ds vs fpa → (fp ++ fpa).Nodup → mp d ds = some (d', res) →
    (∀ H' w fp' fpr, Mono H H' → (∀ a o, H a = some o → a ∉ fp → H' a = some o) → Rep C H' d' v fp' → Rep C H' res w fpr → (fp' ++ fpr).Nodup → (∀ a ∈ fp' ++ fpr, a ∈ fp ∨ a ∈ fpa ∨ H a = none) → Q w H') → r v vs H Q
  ty : ∀ C H v d fp, C.At X → Fr C H → Rep C H d v fp → kd d = true → tyV X.K T v H
def cMut (i : Nat) (kd : D → Bool) (mp : D → List D → Option (D × D)) (cl : CL) (cs : CA) : CE := fun env => (cl env).bind fun dF env => if kd dF.1 then (cs env).bind fun ds env => match mp dF.1 ds with
  | some dr => .ok dr.2 (env.set i (some (dF.2 dr.1)))
  | none => .err
  else .err
theorem mut_go {T : String} {r : V → List V → Hp → VK → Prop} {kd : D → Bool} {mp : D → List D → Option (D × D)} (mu : MuOk X T r kd mp) {t : TE} {t2 : TA} (hi : djB [i] M2 = true)
    (q : ∀ C fs env σ H tf Q, C.At X → Good C fs env σ H tf → PostL W C i M1 tf fs env σ H Q (cl env) → t σ H Q)
    (q2 : ∀ C fs env σ H tf Q, C.At X → Good C fs env σ H tf → PostAO W C M2 tf fs env σ H Q (cs env) → t2 σ H Q) {tt : TE}
    (htt : ∀ σ H Q, (t σ H fun x H1 => (tyV X.K T x H1 ∧ t2 σ H1 fun xs H2 => r x xs H2 Q)) → tt σ H Q) :
    ∀ C fs env σ H tf Q, C.At X → Good C fs env σ H tf → PostO W C (M1 ++ (M2 ++ [i])) tf fs env σ H Q (cMut i kd mp cl cs env) → tt σ H Q := by
  intro C fs env σ H tf Q hC G po
  refine htt σ H Q (q C fs env σ H tf _ hC G ?_)
  unfold cMut at po
  cases e1 : cl env with
  | err => rw [e1] at po; exact po
  | ex x env' => rw [e1] at po; exact fun cv dd fs' H' G' s => po cv dd fs' H' G' (s.weak mem_l fun _ z => z)
  | ok dF env1 =>
    rw [e1] at po
    intro v' fs1 H1 d v g1 fp' g2 G1 s1 hd hv hf Fo
    have po0 : PostO W C (M1 ++ (M2 ++ [i])) tf fs env σ H Q (if kd dF.1 then (cs env1).bind fun ds env => match mp dF.1 ds with
      | some dr => .ok dr.2 (env.set i (some (dF.2 dr.1)))
      | none => .err
      else .err) := po
    split at po0
    case isFalse => exact po0.elim
    rename_i hkd
    refine ⟨mu.ty C H1 v' dF.1 fp' hC G1.fr Fo.here hkd, ?_⟩
    refine q2 C fs1 env1 σ H1 tf _ hC G1 ?_
    have po1 : PostO W C (M1 ++ (M2 ++ [i])) tf fs env σ H Q ((cs env1).bind fun ds env => match mp dF.1 ds with
      | some dr => .ok dr.2 (env.set i (some (dF.2 dr.1)))
      | none => .err) := po0
    cases e2 : cs env1 with
    | err => rw [e2] at po1; exact po1
    | ex x env' => rw [e2] at po1; exact fun cv dd fs' H' G' s => po1 cv dd fs' H' G' ((s1.trans s).weak (fun i hi => by
        rcases List.mem_append.mp hi with z | z <;> simp [z]) fun _ z => z)
    | ok ds env2 =>
      rw [e2] at po1
      intro vs fs2 H2 fpa G2 s2 ra
      have ni : i ∉ M2 := djB_ok hi i (by simp)
      have Fo2 := Fo.keep s2.m (fun a ha => s2.h i ni a (by rw [hf]; exact ha))
      have hd2 : env2[i]? = some (some d) := by rw [s2.e i ni]; exact hd
      have hf2 : fs2.getD i [] = g1 ++ fp' ++ g2 := by rw [s2.f i ni]; exact hf
      have po2 : PostO W C (M1 ++ (M2 ++ [i])) tf fs env σ H Q (match mp dF.1 ds with
        | some dr => .ok dr.2 (env2.set i (some (dF.2 dr.1)))
        | none => .err) := po1
      cases e3 : mp dF.1 ds with
      | none => rw [e3] at po2; exact po2.elim
      | some dr =>
        rw [e3] at po2
        obtain ⟨d', res⟩ := dr
        have inf : ∀ a ∈ fp', a ∈ fs2.getD i [] := fun a ha => by rw [hf2]; simp [ha]
        have ndp : (fp' ++ fpa).Nodup := by
          have nd := G2.nd
          refine List.nodup_append.mpr ⟨?_, (List.nodup_append.mp (List.nodup_append.mp nd).2.1).1, fun a ha b hb eab => ?_⟩
          · have := (List.nodup_append.mp nd).1
            have := (flat_get fs2 (G2.lt hd2)).nodup_iff.mp this
            have := (List.nodup_append.mp this).1
            rw [hf2] at this
            exact (List.nodup_append.mp (List.nodup_append.mp this).1).2.1
          · subst eab; exact G2.apartT (inf a ha) (by simp [hb])
        refine mu.run C H2 v' dF.1 fp' vs ds fpa Q d' res hC G2.fr Fo2.here ra ndp e3 fun H3 w fp3 fpr m3 ch r3 rr nd3 sub3 => ?_
        have tfk : ∀ a ∈ tf, H3 a = H2 a := fun a ha => by
          obtain ⟨o, e, _⟩ := G2.trk a (by simp [ha])
          rw [e]; exact ch a o e fun hx => G2.apartT (inf a hx) (by simp [ha])
        have Gn : Good C (fs2.set i (g1 ++ fp3 ++ g2)) (env2.set i (some (dF.2 d'))) σ H3 (fpr ++ tf) := by
          refine G2.mut hd2 hv hf2 Fo2 m3 ch r3 ?_ ?_ ?_
          · rw [← List.append_assoc]
            refine List.nodup_append.mpr ⟨nd3, (List.nodup_append.mp (List.nodup_append.mp G2.nd).2.1).2.1, fun a ha b hb eab => ?_⟩
            subst eab
            rcases sub3 a ha with z | z | z
            · exact G2.apartT (inf a z) (by simp [hb])
            · exact (List.nodup_append.mp (List.nodup_append.mp G2.nd).2.1).2.2 a z a hb rfl
            · obtain ⟨o, e, _⟩ := G2.trk a (by simp [hb])
              rw [z] at e; cases e
          · intro a ha
            rw [← List.append_assoc] at ha
            rcases List.mem_append.mp ha with z | z
            · rcases sub3 a z with w | w | w
              · exact .inl w
              · exact .inr (.inl (by simp [w]))
              · exact .inr (.inr w)
            · exact .inr (.inl (by simp [z]))
          · intro a ha
            rcases List.mem_append.mp ha with z | z
            · exact rr.trk a z
            · rw [tfk a z]; exact G2.trk a (by simp [z])
        have sn : Step [i] tf fs2 env2 H2 (fs2.set i (g1 ++ fp3 ++ g2)) (env2.set i (some (dF.2 d'))) H3 := Step.mut (d := d) G2 hd2 hf2 m3 ch
        exact po2 w _ H3 fpr Gn (by
          have := (s1.trans s2).trans sn
          rw [List.append_assoc] at this; exact this) rr

variable {T id : String} {name : Str} {apos cpos : Pos} {r : V → List V → Hp → VK → Prop} {kd : D → Bool} {mp : D → List D → Option (D × D)} {e1' : Expr}
theorem so_mut (mu : MuOk X T r kd mp) (pa : PlainAttrs T) (slot : Slot T name id) (hty : typeOf (.builtin id) = pure (.type "method_descriptor")) (hm : MtR X id r) (ho : SL X W i M1 o cl) (ha : SAO X W M2 (e :: es) cs)
    (hi : djB [i] M2 = true := by decide) (hbase : attributeBase o name X.env (eval o X.env) = eval o X.env := by rfl)
    (hfew : ((backTo cpos (starEach (e :: es) X.env)).all (fun x => !x.1) && (backToKw cpos (keywordEach [] X.env)).all (fun x => x.1.isSome)
      && decide ((e :: es).length + ([] : List Keyword).length + (if ([] : List Keyword).isEmpty then 0 else 1) < 30)) = true := by rfl)
    (hline : (apos.endLine == cpos.line) = true := by rfl) (hs : starEach (e :: es) X.env = (false, eval e X.env) :: starEach es X.env := by rfl) (hplain : (backTo cpos (starEach es X.env)).any (·.1) = false := by rfl) :
    SO X W (M1 ++ (M2 ++ [i])) (.Call (.Attribute o name apos) (e :: es) [] cpos) (cMut i kd mp cl cs) := by
  obtain ⟨t, p, q⟩ := ho.go
  obtain ⟨t2, p2, q2⟩ := ha.go
  exact ⟨tBM X.K T r t t2, pe_bm pa slot hty hm p p2 hbase hfew hline hs hplain, mut_go mu hi q q2 fun σ H Q h => h⟩
theorem so_mut0 (mu : MuOk X T r kd mp) (pa : PlainAttrs T) (slot : Slot T name id) (hty : typeOf (.builtin id) = pure (.type "method_descriptor")) (hm : MtR X id r) (ho : SL X W i M1 o cl)
    (hbase : attributeBase o name X.env (eval o X.env) = eval o X.env := by rfl) (hline : (apos.endLine == cpos.line) = true := by rfl) :
    SO X W (M1 ++ ([] ++ [i])) (.Call (.Attribute o name apos) [] [] cpos) (cMut i kd mp cl cNil) := by
  obtain ⟨t, p, q⟩ := ho.go
  refine ⟨tBM0 X.K T r t, pe_bm0 pa slot hty hm p hbase hline, mut_go (t2 := tNil) mu (by unfold djB; simp) q (fun C fs env σ H tf Q hC G po => ?_) fun σ H Q h => h⟩
  exact po [] fs H [] (by simpa using G) .refl ⟨rfl, rfl⟩

def kdL : D → Bool
  | .lst .m _ => true
  | _ => false
theorem kdL_inv {d : D} (h : kdL d = true) : ∃ ds, d = .lst .m ds := by
  unfold kdL at h
  split at h
  · exact ⟨_, rfl⟩
  · cases h
theorem ty_list : ∀ C H v d fp, C.At X → Fr C H → Rep C H d v fp → kdL d = true → tyV X.K "list" v H := by
  intro C H v d fp hC hF r h
  obtain ⟨ds, rfl⟩ := kdL_inv h
  obtain ⟨a, vs, f, rfl, q, _⟩ := rep_list hC hF r
  exact .inl ⟨rfl, vs, q⟩
theorem rep_m {ds v fp} (r : Rep C H (.lst .m ds) v fp) : ∃ a vs f, v = .ref a ∧ H a = some (.lst vs) ∧ Reps C H ds vs f ∧ fp = a :: f := by
  obtain ⟨a, vs, f1, f2, e, ⟨h, rfl⟩, r, _, e2⟩ := r
  exact ⟨a, vs, f2, e, h, r, e2⟩
theorem reps_append : ∀ {ds es : List D} {vs ws : List V} {f g : List Addr}, Reps C H ds vs f → Reps C H es ws g → Reps C H (ds ++ es) (vs ++ ws) (f ++ g)
  | [], es, vs, ws, f, g, ⟨h1, h2⟩, r => by subst h1 h2; exact r
  | d :: ds, es, vs, ws, f, g, ⟨v, vs', f1, f2, e, r1, rs, e2⟩, r => by subst e e2; exact ⟨v, vs' ++ ws, f1, f2 ++ g, rfl, r1, reps_append rs r, by simp⟩
def mAppend : D → List D → Option (D × D)
  | .lst .m ds, [x] => if ds.length < sizeLine then some (.lst .m (ds ++ [x]), .non) else none
  | _, _ => none
theorem mu_append : MuOk X "list" rAppend kdL mAppend := by
  refine ⟨?_, ty_list⟩
  intro C H v d fp vs ds fpa Q d' res hC hF r ra nd h k
  unfold mAppend at h
  split at h
  · rename_i ds x
    split at h
    · rename_i hz
      cases h
      obtain ⟨a, ws, f, rfl, hH, rs, rfl⟩ := rep_m r
      obtain ⟨w, rfl, rx⟩ := reps1 ra
      have m := Mono.upd (o := .lst (ws ++ [w])) hH trivial
      have nda : a ∉ f ++ fpa := by simp at nd ⊢; exact ⟨nd.1.1, nd.1.2⟩
      have kp : ∀ b ∈ f ++ fpa, upd H a (.lst (ws ++ [w])) b = H b := fun b hb => upd_ne (fun z => nda (z ▸ hb))
      refine ⟨a, ws, w, rfl, rfl, hH, by rw [← reps_length rs]; exact hz, ?_⟩
      refine k _ .non (a :: (f ++ fpa)) [] m (fun b o e hb => ?_) ⟨a, _, [a], _, rfl, ⟨upd_same, rfl⟩, reps_append (rs.keep (fun b hb => kp b (by simp [hb])) m) ⟨w, [], fpa, [], rfl, rx.keep (fun b hb => kp b (by simp [hb])) m, ⟨rfl, rfl⟩, by simp⟩, .inl rfl, rfl⟩ ⟨rfl, rfl⟩ (by simpa using nd) fun b hb => ?_
      · rw [upd_ne (fun z => hb (by simp [z]))]; exact e
      · simp at hb ⊢
        rcases hb with z | z | z <;> simp [z]
    · cases h
  · cases h
def mPop : D → List D → Option (D × D)
  | .lst .m ds, [] => (ds[ds.length - 1]?).map fun x => (.lst .m ds.dropLast, x)
  | _, _ => none
theorem reps_last : ∀ {ds : List D} {vs : List V} {f : List Addr} {x : D}, Reps C H ds vs f → ds[ds.length - 1]? = some x → ∃ w g h, vs[vs.length - 1]? = some w ∧ Rep C H x w h ∧ Reps C H ds.dropLast vs.dropLast g ∧ f = g ++ h
  | [], vs, f, x, _, h => by simp at h
  | [d], vs, f, x, ⟨v, vs', f1, f2, e, r, ⟨e3, e4⟩, e2⟩, h => by
    simp at h; subst h; subst e3 e4 e e2
    exact ⟨v, [], f1, by simp, r, ⟨rfl, rfl⟩, by simp⟩
  | d :: d2 :: ds, vs, f, x, ⟨v, vs', f1, f2, e, r, rs, e2⟩, h => by
    subst e e2
    obtain ⟨w, g, h', h1, h2, h3, h4⟩ := reps_last (x := x) rs (by simpa using h)
    obtain ⟨v2, vs2, _, _, e3, _⟩ := rs
    subst e3
    exact ⟨w, f1 ++ g, h', by simpa using h1, h2, ⟨v, (v2 :: vs2).dropLast, f1, g, by simp, r, h3, rfl⟩, by rw [h4]; simp⟩
theorem mu_pop : MuOk X "list" rPop kdL mPop := by
  refine ⟨?_, ty_list⟩
  intro C H v d fp vs ds fpa Q d' res hC hF r ra nd h k
  unfold mPop at h
  split at h
  · rename_i ds
    obtain ⟨x, hx, h⟩ := Option.map_eq_some_iff.mp h
    cases h
    obtain ⟨a, ws, f, rfl, hH, rs, rfl⟩ := rep_m r
    obtain ⟨rfl, rfl⟩ := ra
    obtain ⟨w, g, h', h1, h2, h3, h4⟩ := reps_last rs hx
    have m := Mono.upd (o := .lst ws.dropLast) hH trivial
    have nda : a ∉ f := by simp at nd ⊢; exact nd.1
    have kp : ∀ b ∈ f, upd H a (.lst ws.dropLast) b = H b := fun b hb => upd_ne (fun z => nda (z ▸ hb))
    refine ⟨a, ws, w, rfl, rfl, hH, h1, ?_⟩
    subst h4
    refine k _ w (a :: g) h' m (fun b o e hb => ?_) ⟨a, _, [a], g, rfl, ⟨upd_same, rfl⟩, h3.keep (fun b hb => kp b (by simp [hb])) m, .inl rfl, rfl⟩ (h2.keep (fun b hb => kp b (by simp [hb])) m) (by simpa using nd) fun b hb => ?_
    · rw [upd_ne (fun z => hb (by simp [z]))]; exact e
    · left; simpa using hb
  · cases h

/-! ### a store into a place -/
def putD (ks : List Key) (ds : List D) (k : Key) (x : D) : D := match idxK ks k with
  | some j => .dct .m ks (ds.set j x)
  | none => .dct .m (ks ++ [k]) (ds ++ [x])
def stD : D → D → D → Option D
  | .lst .m ds, .int k, x => (ixN ds.length k).map fun j => .lst .m (ds.set j x)
  | .dct .m ks ds, k, x => k.key.bind fun k => if ks.length < sizeLine then some (putD ks ds k x) else none
  | _, _, _ => none
end
end VS

set_option maxRecDepth 100000
namespace VS
open PySem L2 SeqAt
section
variable {X : Cx} {W : WX} {M M1 M2 M3 V1 V2 V3 Rs R1 R2 R3 : List Nat} {e a b c tg o : Expr} {es : List Expr} {ca cb cc : CE} {cs : CA} {pos p : Pos} {cl : CL} {i : Nat}
variable {pins : List (Addr × Obj)} {σ : St} {H H1 H2 H' : Hp} {s : Shared} {C C' : Ctx} {fs fs1 fs2 : FPs} {env env1 env2 : Env} {tf tf' own : List Addr}
def rSetD : V → V → V → Hp → (Hp → Prop) → Prop := fun o i v H Q => ∃ a H', o = .ref a ∧ DPut H a i v H' ∧ Q H'
theorem set_dict {k : Nat} (hr : Room k X.A) : PSet X rSetD := by
  intro pins s σ H o i v ov iv u Q I ro ri rv ⟨a, H', e, g, q⟩
  subst e
  cases (show ov = Value.ref a from ro)
  exact d_setItem (by have := hr.units; omega) I g ri rv fun s' I' => ⟨H', I', q⟩
theorem set_any {k : Nat} (hr : Room k X.A) : PSet X (fun o i v H Q => rSetL o i v H Q ∨ rSetD o i v H Q) := by
  intro pins s σ H o i v ov iv u Q I ro ri rv h
  rcases h with h | h
  · exact set_list pins s σ H o i v ov iv u Q I ro ri rv h
  · exact set_dict hr pins s σ H o i v ov iv u Q I ro ri rv h
theorem map_snd_set {kvs : List (Key × V)} {j : Nat} {k : Key} {v : V} : (kvs.set j (k, v)).map (·.2) = (kvs.map (·.2)).set j v := by
  rw [List.map_set]
theorem map_fst_set {kvs : List (Key × V)} {j : Nat} {k : Key} {v : V} (h : (kvs[j]?).map (·.1) = some k) : (kvs.set j (k, v)).map (·.1) = kvs.map (·.1) := by
  rw [List.map_set]
  have hj : j < kvs.length := by
    by_cases q : j < kvs.length
    · exact q
    · rw [List.getElem?_eq_none (by omega)] at h; simp at h
  have : (kvs.map (·.1))[j]'(by simpa using hj) = k := by
    rw [List.getElem?_eq_getElem hj] at h
    simpa using h
  conv => rhs; rw [← List.set_getElem_self (as := kvs.map (·.1)) (i := j) (by simpa using hj)]
  rw [this]
theorem idx_at : ∀ {ks : List Key} {k : Key} {j : Nat}, idxK ks k = some j → ks[j]? = some k
  | [], k, j, h => by simp [idxK] at h
  | k0 :: ks, k, j, h => by
    simp only [idxK] at h
    by_cases e : k0 = k
    · rw [if_pos e] at h; cases h; simp [e]
    · rw [if_neg e] at h
      obtain ⟨j', h', rfl⟩ := Option.map_eq_some_iff.mp h
      simpa using idx_at h'
theorem idx_not : ∀ {ks : List Key} {k : Key}, idxK ks k = none → k ∉ ks
  | [], k, _ => by simp
  | k0 :: ks, k, h => by
    simp only [idxK] at h
    by_cases e : k0 = k
    · rw [if_pos e] at h; cases h
    · rw [if_neg e] at h
      have := idx_not (ks := ks) (k := k) (by simpa using h)
      simp [this, Ne.symm e]
theorem st_ok {d y x d' : D} {v w vx : V} {fp fw fx} (hC : C.At X) (hF : Fr C H) (r : Rep C H d v fp) (ry : Rep C H y w fw) (rx : Rep C H x vx fx) (nd : (fp ++ fx).Nodup) (h : stD d y x = some d') {Q : Hp → Prop}
    (k : ∀ H' fp', Mono H H' → (∀ a o, H a = some o → a ∉ fp → H' a = some o) → Rep C H' d' v fp' → fp'.Nodup → (∀ a ∈ fp', a ∈ fp ∨ a ∈ fx) → Q H') : rSetL v w vx H Q ∨ rSetD v w vx H Q := by
  unfold stD at h
  split at h
  · rename_i ds n
    obtain ⟨j, hj, rfl⟩ := Option.map_eq_some_iff.mp h
    obtain ⟨a, vs, f, rfl, hH, rs, rfl⟩ := rep_m r
    obtain ⟨rfl, _⟩ := ry
    have hjl : j < ds.length := (ixN_seq hj).2.1
    obtain ⟨w', g1, fo, g2, h1, h2, h3, h4⟩ := reps_set rs (j := j) (x := ds[j]) (by simp [hjl])
    have m := Mono.upd (o := .lst (vs.set j vx)) hH trivial
    subst h3
    have nda : a ∉ g1 ++ fo ++ g2 ++ fx := by simp at nd ⊢; exact ⟨nd.1.1, nd.1.2.1, nd.1.2.2.1, nd.1.2.2.2⟩
    refine .inl ⟨a, vs, n, j, rfl, rfl, hH, by rw [← reps_length rs]; exact hj, ?_⟩
    have kp : ∀ b, b ≠ a → upd H a (.lst (vs.set j vx)) b = H b := fun b hb => upd_ne hb
    refine k _ (a :: (g1 ++ fx ++ g2)) m (fun b o e hb => ?_) ⟨a, _, [a], _, rfl, ⟨upd_same, rfl⟩, h4 _ x vx fx m (fun b hb => kp b ?_) (rx.keep (fun b hb => kp b ?_) m), .inl rfl, rfl⟩ ?_ ?_
    · rw [kp b (fun z => hb (by simp [z]))]; exact e
    · intro z; subst z; exact nda (by simp at hb ⊢; rcases hb with z | z <;> simp [z])
    · intro z; subst z; exact nda (by simp [hb])
    · have p : (a :: (g1 ++ fx ++ g2) ++ fo).Perm (a :: (g1 ++ fo ++ g2) ++ fx) := by
        refine List.Perm.cons a ?_
        show ((g1 ++ fx ++ g2) ++ fo).Perm ((g1 ++ fo ++ g2) ++ fx)
        simp only [List.append_assoc]
        refine List.Perm.append_left g1 ?_
        have a1 : (fx ++ (g2 ++ fo)).Perm ((g2 ++ fo) ++ fx) := List.perm_append_comm
        refine a1.trans ?_
        rw [List.append_assoc]
        exact List.perm_append_comm_assoc _ _ _
      exact (List.nodup_append.mp (p.nodup_iff.mpr nd)).1
    · intro b hb
      simp at hb ⊢
      rcases hb with z | z | z | z <;> simp [z]
  · rename_i ks ds
    obtain ⟨ky, hk, h⟩ := Option.bind_eq_some_iff.mp h
    split at h
    case isFalse => cases h
    rename_i hz
    cases h
    obtain ⟨a, kvs, f1, f, rfl, ⟨hH, rfl⟩, ⟨hks, hnd⟩, rs, _, rfl⟩ := r
    have ey := key_of hk ry
    have hl : kvs.length < sizeLine := by
      have : kvs.length = ks.length := by rw [← hks]; simp
      omega
    have m := Mono.upd (o := .dK (putK kvs ky vx)) hH trivial
    have kp : ∀ b, b ≠ a → upd H a (.dK (putK kvs ky vx)) b = H b := fun b hb => upd_ne hb
    refine .inr ⟨a, _, rfl, .inl ⟨kvs, ky, hH, ey, hl, rfl⟩, ?_⟩
    cases q : idxK ks ky with
    | some j =>
      have ed : putD ks ds ky x = .dct .m ks (ds.set j x) := by unfold putD; rw [q]
      rw [ed] at k
      have q' := q
      rw [← hks] at q'
      have hn : (kvs.map (·.1)).Nodup := by rw [hks]; exact hnd
      have e1 := idx_nodup (v := vx) hn q'
      have hj := (idx_val q').2
      have hjd : j < ds.length := by rw [reps_length rs]; simpa using hj
      obtain ⟨w', g1, fo, g2, h1, h2, h3, h4⟩ := reps_set rs (j := j) (x := ds[j]) (by simp [hjd])
      subst h3
      have nda : a ∉ g1 ++ fo ++ g2 ++ fx := by simp at nd ⊢; exact ⟨nd.1.1, nd.1.2.1, nd.1.2.2.1, nd.1.2.2.2⟩
      refine k _ (a :: (g1 ++ fx ++ g2)) m (fun b o e hb => ?_) ⟨a, putK kvs ky vx, [a], _, rfl, ⟨upd_same, rfl⟩, ⟨?_, hnd⟩, ?_, .inl rfl, rfl⟩ ?_ ?_
      · rw [kp b (fun z => hb (by simp [z]))]; exact e
      · rw [e1, map_fst_set, hks]
        have := idx_at q'
        rw [List.getElem?_map] at this; exact this
      · have hs2 : (putK kvs ky vx).map (·.2) = (kvs.map (·.2)).set j vx := by rw [e1, map_snd_set]
        rw [hs2]
        refine h4 _ x vx fx m (fun b hb => kp b ?_) (rx.keep (fun b hb => kp b ?_) m)
        · intro z; subst z; exact nda (by simp at hb ⊢; rcases hb with z | z <;> simp [z])
        · intro z; subst z; exact nda (by simp [hb])
      · have p : (a :: (g1 ++ fx ++ g2) ++ fo).Perm (a :: (g1 ++ fo ++ g2) ++ fx) := by
          refine List.Perm.cons a ?_
          show ((g1 ++ fx ++ g2) ++ fo).Perm ((g1 ++ fo ++ g2) ++ fx)
          simp only [List.append_assoc]
          refine List.Perm.append_left g1 ?_
          have a1 : (fx ++ (g2 ++ fo)).Perm ((g2 ++ fo) ++ fx) := List.perm_append_comm
          refine a1.trans ?_
          rw [List.append_assoc]
          exact List.perm_append_comm_assoc _ _ _
        exact (List.nodup_append.mp (p.nodup_iff.mpr (by simpa using nd))).1
      · intro b hb
        simp at hb ⊢
        rcases hb with z | z | z | z <;> simp [z]
    | none =>
      have ed : putD ks ds ky x = .dct .m (ks ++ [ky]) (ds ++ [x]) := by unfold putD; rw [q]
      rw [ed] at k
      have q' := q
      rw [← hks] at q'
      have e1 := putK_new vx (idx_none q')
      have nda : a ∉ f ++ fx := by simp at nd ⊢; exact ⟨nd.1.1, nd.1.2⟩
      refine k _ (a :: (f ++ fx)) m (fun b o e hb => ?_) ⟨a, putK kvs ky vx, [a], _, rfl, ⟨upd_same, rfl⟩, ⟨by rw [e1, List.map_append, hks]; rfl, ?_⟩, ?_, .inl rfl, rfl⟩ (by simpa using nd) ?_
      · rw [kp b (fun z => hb (by simp [z]))]; exact e
      · refine List.nodup_append.mpr ⟨hnd, by simp, fun x hx y hy e => ?_⟩
        simp at hy; subst hy; subst e
        exact idx_not q hx
      · have hs2 : (putK kvs ky vx).map (·.2) = kvs.map (·.2) ++ [vx] := by rw [e1, List.map_append]; rfl
        rw [hs2]
        refine reps_append (rs.keep (fun b hb => kp b ?_) m) ⟨vx, [], fx, [], rfl, rx.keep (fun b hb => kp b ?_) m, ⟨rfl, rfl⟩, by simp⟩
        · intro z; subst z; exact nda (by simp [hb])
        · intro z; subst z; exact nda (by simp [hb])
      · intro b hb
        simp at hb ⊢
        rcases hb with z | z | z <;> simp [z]
  · cases h
def gSubD (i : Nat) (cl : CL) (cb : CE) : D → Env → Option Env := fun x env => match cl env with
  | .ok dF env1 => match cb env1 with
    | .ok y env2 => (stD dF.1 y x).map fun d' => env2.set i (some (dF.2 d'))
    | _ => none
  | _ => none
theorem sg_sub {k : Nat} {W1 W2 : WX} (hr : Room k X.A) (ho : SL X W1 i M1 o cl) (hb : SB X W2 M2 R2 b cb) (hi : djB [i] M2 = true := by decide)
    (ha : ∀ v, assign (.Subscript o b pos) X.env v = (do
      let ov ← holding [v] (eval o X.env)
      let iv ← holding [v, ov] (eval b X.env)
      standAt pos
      holding [v, ov, iv] (setItem ov iv v)
      release [v, ov, iv] []) := by intro _; rfl) : SG X (M1 ++ (M2 ++ [i])) [] (.Subscript o b pos) (gSubD i cl cb) := by
  obtain ⟨t, p, q⟩ := ho.go
  obtain ⟨t2, p2, q2⟩ := hb.go
  refine ⟨gSub t t2 _, pg_sub p p2 (set_any hr) ha, fun C fs env σ H tf Q x vx fx hC G rx po => ?_⟩
  unfold gSubD at po
  refine q C fs env σ H (fx ++ tf) _ hC G ?_
  cases e1 : cl env with
  | err => rw [e1] at po; exact po.elim
  | ex z env' => rw [e1] at po; exact po.elim
  | ok dF env1 =>
    rw [e1] at po
    intro v' fs1 H1 d v g1 fp' g2 G1 s1 hd hv hf Fo
    refine q2 C fs1 env1 σ H1 (fx ++ tf) _ hC G1 ?_
    have po1 : PostG C (M1 ++ (M2 ++ [i])) [] tf fs env σ H Q (match cb env1 with
      | .ok y env2 => (stD dF.1 y x).map fun d' => env2.set i (some (dF.2 d'))
      | _ => none) := po
    cases e2 : cb env1 with
    | err => rw [e2] at po1; exact po1.elim
    | ex z env' => rw [e2] at po1; exact po1.elim
    | ok y env2 =>
      rw [e2] at po1
      intro w fs2 H2 fw own G2 s2 rw' iw
      have ni : i ∉ M2 := djB_ok hi i (by simp)
      have Fo2 := Fo.keep s2.m (fun a ha => s2.h i ni a (by rw [hf]; exact ha))
      have hd2 : env2[i]? = some (some d) := by rw [s2.e i ni]; exact hd
      have hf2 : fs2.getD i [] = g1 ++ fp' ++ g2 := by rw [s2.f i ni]; exact hf
      have po2 : PostG C (M1 ++ (M2 ++ [i])) [] tf fs env σ H Q ((stD dF.1 y x).map fun d' => env2.set i (some (dF.2 d'))) := po1
      cases e3 : stD dF.1 y x with
      | none => rw [e3] at po2; exact po2.elim
      | some d' =>
        rw [e3] at po2
        have G2' : Good C fs2 env2 σ H2 (fx ++ tf) := G2.drop
        have rx2 : Rep C H2 x vx fx := (rx.keep (fun a ha => s1.t a (by simp [ha])) s1.m).keep (fun a ha => s2.t a (by simp [ha])) s2.m
        have inf : ∀ a ∈ fp', a ∈ fs2.getD i [] := fun a ha => by rw [hf2]; simp [ha]
        have ndp : (fp' ++ fx).Nodup := by
          have nd := G2'.nd
          refine List.nodup_append.mpr ⟨?_, (List.nodup_append.mp (List.nodup_append.mp nd).2.1).1, fun a ha b hb eab => ?_⟩
          · have := (List.nodup_append.mp nd).1
            have := (flat_get fs2 (G2'.lt hd2)).nodup_iff.mp this
            have := (List.nodup_append.mp this).1
            rw [hf2] at this
            exact (List.nodup_append.mp (List.nodup_append.mp this).1).2.1
          · subst eab; exact G2'.apartT (inf a ha) (by simp [hb])
        refine st_ok hC G2.fr Fo2.here rw' rx2 ndp e3 fun H3 fp3 m3 ch r3 nd3 sub3 => ?_
        have tfk : ∀ a ∈ tf, H3 a = H2 a := fun a ha => by
          obtain ⟨o, e, _⟩ := G2'.trk a (by simp [ha])
          rw [e]; exact ch a o e fun hx => G2'.apartT (inf a hx) (by simp [ha])
        have Gn : Good C (fs2.set i (g1 ++ fp3 ++ g2)) (env2.set i (some (dF.2 d'))) σ H3 tf := by
          refine G2'.mut hd2 hv hf2 Fo2 m3 ch r3 ?_ ?_ ?_
          · refine List.nodup_append.mpr ⟨nd3, (List.nodup_append.mp (List.nodup_append.mp G2'.nd).2.1).2.1, fun a ha b hb eab => ?_⟩
            subst eab
            rcases sub3 a ha with z | z
            · exact G2'.apartT (inf a z) (by simp [hb])
            · exact (List.nodup_append.mp (List.nodup_append.mp G2'.nd).2.1).2.2 a z a hb rfl
          · intro a ha
            rcases List.mem_append.mp ha with z | z
            · rcases sub3 a z with w | w
              · exact .inl w
              · exact .inr (.inl (by simp [w]))
            · exact .inr (.inl (by simp [z]))
          · intro a ha
            rw [tfk a ha]; exact G2'.trk a (by simp [ha])
        have sn : Step [i] tf fs2 env2 H2 (fs2.set i (g1 ++ fp3 ++ g2)) (env2.set i (some (dF.2 d'))) H3 := Step.mut (d := d) G2' hd2 hf2 m3 ch
        have w1 := s1.weak (M' := M1) (tf' := tf) (fun _ z => z) fun x hx => by simp [hx]
        have w2 := s2.weak (M' := M2) (tf' := tf) (fun _ z => z) fun x hx => by simp [hx]
        have := (w1.trans w2).trans sn
        rw [List.append_assoc] at this
        exact po2 _ σ H3 Gn this.ss
end
end VS

set_option maxRecDepth 100000
namespace VS
open PySem L2 SeqAt
section
variable {X : Cx} {W : WX} {pos : Pos}
/-- a name's value as an owned one: shared where it may be, else moved out -/
def cGet (i : Nat) : CE := fun env => match env[i]? with
  | some (some d) => if d.imm then .ok d env else .ok d (env.set i none)
  | _ => .err
theorem so_get (i : Nat) {x : Str} (hN : X.N[i]? = some x := by rfl) (hv : Vis X.env.scope x := by first | exact Or.inl rfl | exact Or.inr (Or.inl rfl) | exact Or.inr (Or.inr rfl)) (hd : (x == ("__debug__" : Str)) = false := by decide)
    (hcd : (x == ("__classdict__" : Str)) = false := by decide) : SO X W [i] (.Name x pos) (cGet i) := by
  refine ⟨tVar i, pe_var hN hv hd hcd, fun C fs env σ H tf Q hC G po => ?_⟩
  unfold cGet at po
  split at po
  · rename_i d e1
    obtain ⟨v, e2, r⟩ := G.rep i d e1
    split at po
    · rename_i hi
      refine ⟨v, e2, po v fs H [] (by simpa using G) .refl ?_⟩
      have := r.imm hi
      first | exact this | exact this.1 | (subst this; exact r) | (rw [this] at r; exact r)
    · refine ⟨v, e2, po v (fs.set i []) H _ (G.mv e1) ⟨fun _ _ => rfl, fun j hj => ?_, fun j hj => ?_, fun _ _ _ _ => rfl, .refl H⟩ r⟩
      · rw [getD_set fs i j [] (G.lt e1), if_neg (by simpa using hj)]
      · rw [List.getElem?_set, if_neg (by intro z; subst z; simp at hj)]
  · exact po.elim

/-! ### the same with the slot left to be found from the combinator -/
variable {M M1 M2 M3 V1 V2 V3 Rs R1 R2 R3 : List Nat} {e a b c tg : Expr} {es : List Expr} {ca cb cc : CE} {cs : CA} {cr : Env → R (List AV)} {io : List Bool} {i j : Nat} {x y : Str}
theorem ss_parI {px py pt : Pos} {kt k2 pt2} (hc : X.calm = true) (hN : X.N.Nodup) (ha : SAO X W M [a, b] cs) (hi : X.N[i]? = some x := by rfl) (hj : X.N[j]? = some y := by rfl) (hij : i ≠ j := by decide)
    (hx : X.env.scope.names.lookup x = some .local := by rfl) (hy : X.env.scope.names.lookup y = some .local := by rfl)
    (hw : swappedStores [.Tuple [.Name x px, .Name y py] kt pt] (.Tuple [a, b] k2 pt2) X.env = pure (some [x, y]) := by rfl)
    (hs : swapsWithSole [.Tuple [.Name x px, .Name y py] kt pt] (.Tuple [a, b] k2 pt2) pos.line X.env = pure false := by rfl) :
    SS X W (M ++ ([i] ++ [j])) ([i] ++ [j]) (.Assign [.Tuple [.Name x px, .Name y py] kt pt] (.Tuple [a, b] k2 pt2) pos) (sPar i j cs) := ss_par i j hc hN ha hi hj hij hx hy hw hs
theorem ss_setI {pos' : Pos} (hN : X.N.Nodup) (h : SO X W M e ca) (hi : X.N[i]? = some x := by rfl) (hx : Loc X.env.scope x := by first | exact .inl rfl | exact .inr rfl) (hs : swapsWith e (some (.Name x pos')) pos.line X.env = pure false := by rfl) (hf : X.fn x = true ∨ X.env.scope.names.lookup x = some .local := by first | exact .inl rfl | exact .inr rfl | assumption) :
    SS X W (M ++ [i]) [i] (.Assign [.Name x pos'] e pos) (sAsg ca (gSet i)) := ss_set i hN h hi hx hs hf
theorem sri_ioI (hr : SRI X W M2 R2 io es cr) (hN : X.N[i]? = some x := by rfl) (hv : Vis X.env.scope x := by first | exact Or.inl rfl | exact Or.inr (Or.inl rfl) | exact Or.inr (Or.inr rfl)) (hd : (x == ("__debug__" : Str)) = false := by decide)
    (hcd : (x == ("__classdict__" : Str)) = false := by decide) (hs : starEach (.Name x pos :: es) X.env = (false, eval (.Name x pos) X.env) :: starEach es X.env := by rfl) : SRI X W ([i] ++ M2) R2 (true :: io) (.Name x pos :: es) (aOw (cMv i) (some i) cr) := sri_io i hr hN hv hd hcd hs
end
end VS

set_option maxRecDepth 100000
namespace VS
open PySem L2 SeqAt
section
variable {α β : Type} (env : Env) (i j : Nat) (c ca cb cc : CE) (cs : CA) (ct : CT) (ta tb : CT) (d : D) (p q : D → D → Option D) (p1 : D → Option D) (pl : List D → Option D) (s1 s2 : CS) (g : D → Env → Option Env)
@[simp] theorem e_bind1 (a : α) (f : α → Env → R β) : (R.ok a env).bind f = f a env := (rfl)
@[simp] theorem e_bind2 (x : Exn) (f : α → Env → R β) : (R.ex x env : R α).bind f = .ex x env := (rfl)
@[simp] theorem e_bind3 (f : α → Env → R β) : (R.err : R α).bind f = .err := (rfl)
@[simp] theorem e_of1 (a : α) : R.of (some a) env = .ok a env := (rfl)
@[simp] theorem e_of2 : R.of (none : Option α) env = .err := (rfl)
@[simp] theorem e_var : cVar i env = match env[i]? with
  | some (some d) => .ok d env
  | _ => .err := (rfl)
@[simp] theorem e_mv : cMv i env = match env[i]? with
  | some (some d) => .ok d (env.set i none)
  | _ => .err := (rfl)
@[simp] theorem e_get : cGet i env = match env[i]? with
  | some (some d) => if d.imm then .ok d env else .ok d (env.set i none)
  | _ => .err := (rfl)
@[simp] theorem e_k : cK d env = .ok d env := (rfl)
@[simp] theorem e_two : cTwo ca cb env = (ca env).bind fun x env => (cb env).bind fun y env => .ok (x, y) env := (rfl)
@[simp] theorem e_2 : c2 p ca cb env = (cTwo ca cb env).bind fun xy env => R.of (p xy.1 xy.2) env := (rfl)
@[simp] theorem e_1 : c1 p1 ca env = (ca env).bind fun x env => R.of (p1 x) env := (rfl)
@[simp] theorem e_idx : cIdx ca cb env = c2 ixD ca cb env := (rfl)
@[simp] theorem e_imm : cImm c env = (c env).bind fun d env => if d.imm then .ok d env else .err := (rfl)
@[simp] theorem e_nil : cNil env = .ok [] env := (rfl)
@[simp] theorem e_cons : cCons c cs env = (c env).bind fun d env => (cs env).bind fun ds env => .ok (d :: ds) env := (rfl)
@[simp] theorem e_L : cL pl cs env = (cs env).bind fun ds env => R.of (pl ds) env := (rfl)
@[simp] theorem e_tup : cTup cs env = (cs env).bind fun ds env => if ds.length ≤ sizeLine then .ok (.tup ds) env else .err := (rfl)
@[simp] theorem e_lst : cLst cs env = (cs env).bind fun ds env => if ds.length ≤ sizeLine then .ok (.lst .m ds) env else .err := (rfl)
@[simp] theorem e_tt : cTt ca env = (ca env).bind fun d env => R.of d.tt env := (rfl)
@[simp] theorem e_tt1 (b : Bool) : D.tt (.bl b) = some b := (rfl)
@[simp] theorem e_tand : tcAnd ta tb env = (ta env).bind fun b env => if b = true then tb env else .ok false env := (rfl)
@[simp] theorem e_tor : tcOr ta tb env = (ta env).bind fun b env => if b = true then .ok true env else tb env := (rfl)
@[simp] theorem e_tnot : tcNot ta env = (ta env).bind fun b env => .ok (!b) env := (rfl)
@[simp] theorem e_and : cAnd ca cb env = (ca env).bind fun d env => match d with
  | .bl true => cb env
  | .bl false => .ok (.bl false) env
  | _ => .err := (rfl)
@[simp] theorem e_or : cOr ca cb env = (ca env).bind fun d env => match d with
  | .bl true => .ok (.bl true) env
  | .bl false => cb env
  | _ => .err := (rfl)
@[simp] theorem e_not : cNot ca env = (ca env).bind fun d env => match d with
  | .bl b => .ok (.bl (!b)) env
  | _ => .err := (rfl)
@[simp] theorem e_chain : cChain p q ca cb cc env = (cTwo ca cb env).bind fun xy env => match p xy.1 xy.2 with
  | some (.bl true) => (cc env).bind fun z env => R.of (q xy.2 z) env
  | some (.bl false) => .ok (.bl false) env
  | _ => .err := (rfl)
@[simp] theorem e_if : cIf ct ca cb env = (ct env).bind fun k env => if k = true then ca env else cb env := (rfl)
@[simp] theorem e_anil : aNil env = .ok [] env := (rfl)
@[simp] theorem e_aro (cr : Env → R (List AV)) : aRo ca cr env = (ca env).bind fun d env => (cr env).bind fun as env => .ok (.ro d :: as) env := (rfl)
@[simp] theorem e_aow (wb : Option Nat) (cr : Env → R (List AV)) : aOw ca wb cr env = (ca env).bind fun d env => (cr env).bind fun as env => .ok (.ow d wb :: as) env := (rfl)
@[simp] theorem e_call (φ : List D → FR) (cr : Env → R (List AV)) : cCall φ cr env = (cr env).bind fun avs env => callEnd avs env (φ (avs.map AV.d)) := (rfl)
@[simp] theorem e_end1 (avs : List AV) (r : D) (os : List D) : callEnd avs env (.ok r os) = if r.nol && nols os then (match putBack avs os env with
    | some env' => .ok r env'
    | none => .err) else .err := (rfl)
@[simp] theorem e_end2 (avs : List AV) (x : Exn) (os : List D) : callEnd avs env (.ex x os) = if nols os then (match putBack avs os env with
    | some env' => .ex x env'
    | none => .err) else .err := (rfl)
@[simp] theorem e_ro (d : D) : AV.d (.ro d) = d.lend := (rfl)
@[simp] theorem e_ow (d : D) (wb : Option Nat) : AV.d (.ow d wb) = d := (rfl)
@[simp] theorem e_pb0 : putBack [] [] env = some env := (rfl)
@[simp] theorem e_pb1 (d : D) (as : List AV) (os : List D) : putBack (.ro d :: as) os env = putBack as os env := by
  cases as <;> cases os <;> rfl
@[simp] theorem e_pb2 (d o : D) (as : List AV) (os : List D) : putBack (.ow d (some i) :: as) (o :: os) env = putBack as os (env.set i (some o)) := (rfl)
@[simp] theorem e_pb3 (d o : D) (as : List AV) (os : List D) : putBack (.ow d none :: as) (o :: os) env = putBack as os env := (rfl)
/-! statements -/
@[simp] theorem e_snil : sNil env = .nx env := (rfl)
@[simp] theorem e_seq : sSeq s1 s2 env = (s1 env).bind s2 := (rfl)
@[simp] theorem e_ob1 (f : CS) : (O.nx env).bind f = f env := (rfl)
@[simp] theorem e_ob2 (f : CS) : (O.rt d env).bind f = .rt d env := (rfl)
@[simp] theorem e_ob3 (f : CS) : (O.bk env).bind f = .bk env := (rfl)
@[simp] theorem e_ob4 (f : CS) : (O.ct env).bind f = .ct env := (rfl)
@[simp] theorem e_ob5 (x : Exn) (f : CS) : (O.ex x env).bind f = .ex x env := (rfl)
@[simp] theorem e_ob6 (f : CS) : (O.err).bind f = .err := (rfl)
@[simp] theorem e_expr : sExpr c env = match c env with
  | .ok _ env => .nx env
  | .ex x env => .ex x env
  | .err => .err := (rfl)
@[simp] theorem e_ret : sRet c env = match c env with
  | .ok d env => .rt d env
  | .ex x env => .ex x env
  | .err => .err := (rfl)
@[simp] theorem e_sif : sIf ct s1 s2 env = match ct env with
  | .ok k env => if k = true then s1 env else s2 env
  | .ex x env => .ex x env
  | .err => .err := (rfl)
@[simp] theorem e_gset : gSet i d env = some (env.set i (some d)) := (rfl)
@[simp] theorem e_asg : sAsg c g env = match c env with
  | .ok d env => match g d env with
    | some env => .nx env
    | none => .err
  | .ex x env => .ex x env
  | .err => .err := (rfl)
@[simp] theorem e_par : sPar i j cs env = match cs env with
  | .ok [d, e] env => .nx ((env.set i (some d)).set j (some e))
  | .ok _ _ => .err
  | .ex x env => .ex x env
  | .err => .err := (rfl)
@[simp] theorem e_kills (is : List Nat) : sKills is s1 env = s1 (is.foldl (fun env i => env.set i none) env) := (rfl)
/-! trees -/
@[simp] theorem e_imm1 (i : Int) : (D.int i).imm = true := (rfl)
@[simp] theorem e_imm2 (b : Bool) : (D.bl b).imm = true := (rfl)
@[simp] theorem e_imm3 (s : Str) : (D.str s).imm = true := (rfl)
@[simp] theorem e_imm4 : D.non.imm = true := (rfl)
@[simp] theorem e_imm5 (ds : List D) : (D.tup ds).imm = imms ds := (rfl)
@[simp] theorem e_imm6 (g : Fl) (ds : List D) : (D.lst g ds).imm = ((g == .l || g == .f) && imms ds) := (rfl)
@[simp] theorem e_imms0 : imms [] = true := (rfl)
@[simp] theorem e_imms1 (ds : List D) : imms (d :: ds) = (d.imm && imms ds) := (rfl)
@[simp] theorem e_nol1 (i : Int) : (D.int i).nol = true := (rfl)
@[simp] theorem e_nol2 (b : Bool) : (D.bl b).nol = true := (rfl)
@[simp] theorem e_nol3 (s : Str) : (D.str s).nol = true := (rfl)
@[simp] theorem e_nol4 : D.non.nol = true := (rfl)
@[simp] theorem e_nol5 (ds : List D) : (D.tup ds).nol = nols ds := (rfl)
@[simp] theorem e_nol6 (ds : List D) : (D.lst .m ds).nol = nols ds := (rfl)
@[simp] theorem e_nols0 : nols [] = true := (rfl)
@[simp] theorem e_nols1 (ds : List D) : nols (d :: ds) = (d.nol && nols ds) := (rfl)
@[simp] theorem e_lend1 (i : Int) : (D.int i).lend = .int i := (rfl)
@[simp] theorem e_lend2 (b : Bool) : (D.bl b).lend = .bl b := (rfl)
@[simp] theorem e_lend3 (s : Str) : (D.str s).lend = .str s := (rfl)
@[simp] theorem e_lend4 : D.non.lend = .non := (rfl)
@[simp] theorem e_lend5 (ds : List D) : (D.tup ds).lend = .tup (lends ds) := (rfl)
@[simp] theorem e_lend6 (ds : List D) : (D.lst .m ds).lend = .lst .l (lends ds) := (rfl)
@[simp] theorem e_lend7 (ds : List D) : (D.lst .l ds).lend = .lst .l (lends ds) := (rfl)
@[simp] theorem e_lends0 : lends [] = [] := (rfl)
@[simp] theorem e_lends1 (ds : List D) : lends (d :: ds) = d.lend :: lends ds := (rfl)
@[simp] theorem lends_ints : ∀ ns : List Int, lends (ns.map D.int) = ns.map D.int
  | [] => rfl
  | n :: ns => by simp [lends_ints ns]
@[simp] theorem imms_ints : ∀ ns : List Int, imms (ns.map D.int) = true
  | [] => rfl
  | n :: ns => by simp [imms_ints ns]
/-! primitives on numbers -/
@[simp] theorem e_pI (cc : Int → Int → Bool) (g : Int → Int → Int) (i j : Int) : pI cc g (.int i) (.int j) = if cc i j then some (.int (g i j)) else none := (rfl)
@[simp] theorem e_pIB (g : Int → Int → Bool) (i j : Int) : pIB g (.int i) (.int j) = some (.bl (g i j)) := (rfl)
@[simp] theorem e_neg (i : Int) : pNeg (.int i) = some (.int (-i)) := (rfl)
@[simp] theorem e_eq (i j : Int) : pEq (.int i) (.int j) = some (.bl (i == j)) := (rfl)
@[simp] theorem e_ne (i j : Int) : pNe (.int i) (.int j) = some (.bl (!(i == j))) := (rfl)
@[simp] theorem e_abs (i : Int) : pAbs [.int i] = some (.int (if i < 0 then -i else i)) := (rfl)
@[simp] theorem e_min2 (i j : Int) : pMin2 [.int i, .int j] = some (.int (if j < i then j else i)) := (rfl)
@[simp] theorem e_max2 (i j : Int) : pMax2 [.int i, .int j] = some (.int (if i < j then j else i)) := (rfl)
@[simp] theorem e_int1 (i : Int) : pInt1 [.int i] = some (.int i) := (rfl)
@[simp] theorem e_int2 (b : Bool) : pInt1 [.bl b] = some (.int (if b then 1 else 0)) := (rfl)
@[simp] theorem e_len1 (g : Fl) (ds : List D) : pLen [.lst g ds] = some (.int ds.length) := (rfl)
@[simp] theorem e_len2 (ds : List D) : pLen [.tup ds] = some (.int ds.length) := (rfl)
@[simp] theorem e_ix1 (g : Fl) (ds : List D) (i : Int) : ixD (.lst g ds) (.int i) = atI ds i := (rfl)
@[simp] theorem e_ix2 (ds : List D) (i : Int) : ixD (.tup ds) (.int i) = atI ds i := (rfl)
theorem atI_nat {α : Type} {xs : List α} {k : Nat} (h : k < xs.length) : atI xs (k : Int) = xs[k]? := by
  unfold atI ixN
  rw [if_pos (by omega), if_pos (by omega)]
  simp
@[simp] theorem atI_0 {α : Type} (x : α) (xs : List α) : atI (x :: xs) 0 = some x := by
  have := atI_nat (xs := x :: xs) (k := 0) (by simp); simpa using this
@[simp] theorem atI_1 {α : Type} (x y : α) (xs : List α) : atI (x :: y :: xs) 1 = some y := by
  have := atI_nat (xs := x :: y :: xs) (k := 1) (by simp); simpa using this
@[simp] theorem atI_2 {α : Type} (x y z : α) (xs : List α) : atI (x :: y :: z :: xs) 2 = some z := by
  have := atI_nat (xs := x :: y :: z :: xs) (k := 2) (by simp); simpa using this
@[simp] theorem atI_3 {α : Type} (x y z u : α) (xs : List α) : atI (x :: y :: z :: u :: xs) 3 = some u := by
  have := atI_nat (xs := x :: y :: z :: u :: xs) (k := 3) (by simp); simpa using this
@[simp] theorem atI_4 {α : Type} (x y z u v : α) (xs : List α) : atI (x :: y :: z :: u :: v :: xs) 4 = some v := by
  have := atI_nat (xs := x :: y :: z :: u :: v :: xs) (k := 4) (by simp); simpa using this
theorem sz_ok {n : Nat} (h : n ≤ 1000) : n ≤ sizeLine := Nat.le_of_lt (small1000 h)
@[simp] theorem sz_0 : 0 ≤ sizeLine := sz_ok (by decide)
@[simp] theorem sz_1 : 1 ≤ sizeLine := sz_ok (by decide)
@[simp] theorem sz_2 : 2 ≤ sizeLine := sz_ok (by decide)
@[simp] theorem sz_3 : 3 ≤ sizeLine := sz_ok (by decide)
@[simp] theorem sz_4 : 4 ≤ sizeLine := sz_ok (by decide)
@[simp] theorem sz_5 : 5 ≤ sizeLine := sz_ok (by decide)
@[simp] theorem sz_6 : 6 ≤ sizeLine := sz_ok (by decide)
@[simp] theorem e_isi_i (i : Int) : pIsi [.int i, .ty "int"] = some (.bl true) := (rfl)
@[simp] theorem e_isi_b (i : Int) : pIsi [.int i, .ty "bool"] = some (.bl false) := (rfl)
@[simp] theorem m01a (c : Prop) [Decidable c] : -18446744073709551616 < (if c then (1 : Int) else 0) := by split <;> omega
@[simp] theorem m01b (c : Prop) [Decidable c] : (if c then (1 : Int) else 0) < 18446744073709551616 := by split <;> omega
@[simp] theorem m2a (x : Int) : -18446744073709551616 < x % 40009 + 7 := by omega
@[simp] theorem m2b (x : Int) : x % 40009 + 7 < 18446744073709551616 := by omega
end
end VS

set_option maxRecDepth 100000
namespace VS
open PySem L2 SeqAt
/-! ### what a judgement says, as one reading -/
def tO (K : PySem.W.Frag) (mg : Str → Option Value) (W : WX) (M : List Nat) (c : CE) : TE := fun σ H Q => ∃ C fs env tf, C.K = K ∧ C.mg = mg ∧ Good C fs env σ H tf ∧ PostO W C M tf fs env σ H Q (c env)
def tT (K : PySem.W.Frag) (mg : Str → Option Value) (W : WX) (M : List Nat) (c : CT) : TT := fun σ H Q => ∃ C fs env tf, C.K = K ∧ C.mg = mg ∧ Good C fs env σ H tf ∧ PostT W C M tf fs env σ H Q (c env)
def tG (K : PySem.W.Frag) (mg : Str → Option Value) (M Vs : List Nat) (g : D → Env → Option Env) : TG := fun v σ H Q => ∃ C fs env tf d fp, C.K = K ∧ C.mg = mg ∧ Good C fs env σ H (fp ++ tf) ∧ Rep C H d v fp ∧ PostG C M Vs tf fs env σ H Q (g d env)
section
variable {X : Cx} {W : WX} {M M1 M2 M3 M4 V1 V2 V3 Rs R1 R2 R3 : List Nat} {e a b c tg : Expr} {es ifs : List Expr} {ca cb cc : CE} {cs src : CA} {ct : CT} {pos p : Pos} {g : D → Env → Option Env}
theorem SO.canon (h : SO X W M e ca) : PE X e (tO X.K X.mg W M ca) := by
  obtain ⟨t, p, q⟩ := h.go
  exact ⟨fun pins s σ H Q I ⟨C, fs, env, tf, h1, h2, G, po⟩ => p.run pins s σ H Q I (q C fs env σ H tf Q ⟨h1, h2⟩ G po)⟩
theorem SG.canon (h : SG X M V1 tg g) : PG X tg (tG X.K X.mg M V1 g) := by
  obtain ⟨t, p, q⟩ := h.go
  exact ⟨fun pins s σ H v u Q I r ⟨C, fs, env, tf, d, fp, h1, h2, G, rr, po⟩ => p.run pins s σ H v u Q I r (q C fs env σ H tf Q d v fp ⟨h1, h2⟩ G rr po)⟩
structure STs (X : Cx) (W : WX) (M : List Nat) (ifs : List Expr) (ct : CT) : Prop where
  go : PTs X ifs (tT X.K X.mg W M ct)
def cYes : CT := fun env => .ok true env
theorem sts_nil : STs X W [] [] cYes :=
  ⟨⟨fun pins s σ H Q I ⟨C, fs, env, tf, h1, h2, G, po⟩ => pts_nil.run pins s σ H Q I (po fs H G .refl)⟩⟩
theorem sts_one (h : ST X W M c ct) : STs X W M [c] ct := by
  obtain ⟨t, p, q⟩ := h.go
  exact ⟨⟨fun pins s σ H Q I ⟨C, fs, env, tf, h1, h2, G, po⟩ => (pts_one p).run pins s σ H Q I (q C fs env σ H tf Q ⟨h1, h2⟩ G po)⟩⟩

/-! ### slots forgotten for a while -/
def wipeE (env : Env) : List Nat → Env
  | [] => env
  | v :: vs => (wipeE env vs).set v none
def wipeF (fs : FPs) : List Nat → FPs
  | [] => fs
  | v :: vs => (wipeF fs vs).set v []
def backE (env1 env : Env) : List Nat → Env
  | [] => env
  | v :: vs => (backE env1 env vs).set v (env1.getD v none)
theorem wipe_get {σ : St} {i : Nat} : ∀ {vs : List Nat}, (wipe σ vs)[i]? = if i ∈ vs then (σ[i]?).map (fun _ => none) else σ[i]?
  | [] => by simp [wipe]
  | v :: vs => by
    unfold wipe
    rw [List.getElem?_set]
    by_cases hv : v = i
    · subst hv
      rw [if_pos rfl, wipe_length, if_pos (show v ∈ v :: vs by simp)]
      by_cases hl : v < σ.length
      · rw [if_pos hl]; simp [hl]
      · rw [if_neg hl, List.getElem?_eq_none (by omega)]; rfl
    · rw [if_neg hv, wipe_get (vs := vs)]
      have : (i ∈ v :: vs) ↔ i ∈ vs := by simp [Ne.symm hv]
      simp only [this]
theorem wipeE_get {σ : Env} {i : Nat} : ∀ {vs : List Nat}, (wipeE σ vs)[i]? = if i ∈ vs then (σ[i]?).map (fun _ => none) else σ[i]?
  | [] => by simp [wipeE]
  | v :: vs => by
    have hl : ∀ vs : List Nat, (wipeE σ vs).length = σ.length := fun vs => by
      induction vs with
      | nil => rfl
      | cons v vs ih => unfold wipeE; rw [List.length_set, ih]
    unfold wipeE
    rw [List.getElem?_set]
    by_cases hv : v = i
    · subst hv
      rw [if_pos rfl, hl, if_pos (show v ∈ v :: vs by simp)]
      by_cases hl : v < σ.length
      · rw [if_pos hl]; simp [hl]
      · rw [if_neg hl, List.getElem?_eq_none (by omega)]; rfl
    · rw [if_neg hv, wipeE_get (vs := vs)]
      have : (i ∈ v :: vs) ↔ i ∈ vs := by simp [Ne.symm hv]
      simp only [this]
theorem wipeE_len {σ : Env} : ∀ vs : List Nat, (wipeE σ vs).length = σ.length
  | [] => rfl
  | v :: vs => by unfold wipeE; rw [List.length_set, wipeE_len vs]
theorem wipeF_len {σ : FPs} : ∀ vs : List Nat, (wipeF σ vs).length = σ.length
  | [] => rfl
  | v :: vs => by unfold wipeF; rw [List.length_set, wipeF_len vs]
theorem backE_len {e1 σ : Env} : ∀ vs : List Nat, (backE e1 σ vs).length = σ.length
  | [] => rfl
  | v :: vs => by unfold backE; rw [List.length_set, backE_len vs]
theorem backE_get {e1 σ : Env} {i : Nat} : ∀ {vs : List Nat}, (backE e1 σ vs)[i]? = if i ∈ vs then (σ[i]?).map (fun _ => e1.getD i none) else σ[i]?
  | [] => by simp [backE]
  | v :: vs => by
    unfold backE
    rw [List.getElem?_set]
    by_cases hv : v = i
    · subst hv
      rw [if_pos rfl, backE_len, if_pos (show v ∈ v :: vs by simp)]
      by_cases hl : v < σ.length
      · rw [if_pos hl]; simp [hl]
      · rw [if_neg hl, List.getElem?_eq_none (by omega)]; rfl
    · rw [if_neg hv, backE_get (vs := vs)]
      have : (i ∈ v :: vs) ↔ i ∈ vs := by simp [Ne.symm hv]
      simp only [this]
theorem wipeF_get {fs : FPs} {i : Nat} : ∀ {vs : List Nat}, (wipeF fs vs).getD i [] = if i ∈ vs then [] else fs.getD i []
  | [] => by simp [wipeF]
  | v :: vs => by
    unfold wipeF
    by_cases hv : v = i
    · subst hv
      rw [if_pos (by simp), List.getD_eq_getElem?_getD, List.getElem?_set]
      rw [if_pos rfl]
      split <;> rfl
    · rw [List.getD_eq_getElem?_getD, List.getElem?_set, if_neg hv, ← List.getD_eq_getElem?_getD, wipeF_get (vs := vs)]
      have : (i ∈ v :: vs) ↔ i ∈ vs := by simp [Ne.symm hv]
      simp only [this]
theorem wipe_eq {σ3 σ : St} {vs : List Nat} (hl : σ3.length = σ.length) (h : ∀ i, i ∉ vs → σ3[i]? = (wipe σ vs)[i]?) : wipe σ3 vs = wipe σ vs := by
  refine List.ext_getElem? fun i => ?_
  by_cases hi : i ∈ vs
  · rw [wipe_get, wipe_get, if_pos hi, if_pos hi]
    by_cases h1 : i < σ.length
    · simp [h1, hl]
    · rw [List.getElem?_eq_none (by omega), List.getElem?_eq_none (by omega)]
  · have := h i hi
    rw [wipe_get, if_neg hi, this]
variable {pins : List (Addr × Obj)} {σ σ' : St} {H H1 H2 H' : Hp} {s : Shared} {C C' : Ctx} {fs fs1 fs2 : FPs} {env env1 env2 : Env} {tf tf' own : List Addr}
theorem Good.sig (G : Good C fs env σ H tf) (hl : σ'.length = σ.length) (h : ∀ (i : Nat) (d : D), env[i]? = some (some d) → σ'[i]? = σ[i]?) : Good C fs env σ' H tf :=
  ⟨by rw [hl]; exact G.le, by rw [hl]; exact G.lf, fun i d e => by rw [h i d e]; exact G.rep i d e, G.nd, G.own, G.trk, G.fr, G.lk⟩
theorem Good.wipeK (G : Good C fs env σ H tf) : ∀ vs : List Nat, Good C (wipeF fs vs) (wipeE env vs) σ H tf
  | [] => G
  | v :: vs => (G.wipeK vs).kill v
theorem Good.wipe (G : Good C fs env σ H tf) (vs : List Nat) : Good C (wipeF fs vs) (wipeE env vs) (wipe σ vs) H tf :=
  (G.wipeK vs).sig (wipe_length σ vs) fun i d e => by
    rw [wipeE_get] at e
    by_cases hi : i ∈ vs
    · rw [if_pos hi] at e
      cases h : env[i]? <;> rw [h] at e <;> simp at e
    · rw [wipe_get, if_neg hi]
theorem Step.wipe : ∀ vs : List Nat, Step vs tf fs env H (wipeF fs vs) (wipeE env vs) H := fun vs =>
  ⟨fun _ _ => rfl, fun i hi => by rw [wipeF_get, if_neg hi], fun i hi => by rw [wipeE_get, if_neg hi], fun _ _ _ _ => rfl, .refl H⟩
theorem Good.back {vs : List Nat} (G : Good C fs env (L2.wipe σ vs) H tf) (hr : ∀ i, i ∈ vs → ∀ d, env1[i]? = some (some d) → ∃ v, σ[i]? = some (some v) ∧ Rep C H d v []) : Good C (wipeF fs vs) (backE env1 env vs) σ H tf := by
  have Gw := G.wipeK vs
  refine ⟨?_, ?_, fun i d e => ?_, Gw.nd, Gw.own, Gw.trk, Gw.fr, Gw.lk⟩
  · rw [backE_len, G.le, wipe_length]
  · rw [wipeF_len, G.lf, wipe_length]
  · rw [backE_get] at e
    by_cases hi : i ∈ vs
    · rw [if_pos hi] at e
      obtain ⟨x, _, e2⟩ := Option.map_eq_some_iff.mp e
      have e3 : env1[i]? = some (some d) := by
        rw [List.getD_eq_getElem?_getD] at e2
        cases h : env1[i]? with
        | none => rw [h] at e2; cases e2
        | some y => rw [h] at e2; simp at e2; rw [e2]
      obtain ⟨v, h1, h2⟩ := hr i hi d e3
      exact ⟨v, h1, by rw [wipeF_get, if_pos hi]; exact h2⟩
    · rw [if_neg hi] at e
      obtain ⟨v, h1, h2⟩ := G.rep i d e
      rw [wipe_get, if_neg hi] at h1
      exact ⟨v, h1, by rw [wipeF_get, if_neg hi]; exact h2⟩
theorem mono_upd {q : Addr} {o o' : HO} (h : H q = some o) (mu : Mutb o) : Mono H (upd H q o') :=
  ⟨fun a xs e => by
    by_cases ha : a = q
    · subst ha; rw [h] at e; cases e; exact mu.elim
    · rw [upd_ne ha]; exact e, fun a o2 u e => by
    by_cases ha : a = q
    · subst ha; rw [h] at e; cases e; exact mu.elim
    · rw [upd_ne ha]; exact e⟩
/-- an object that is held beside is changed -/
theorem Good.updT {q : Addr} {o o' : HO} (G : Good C fs env σ H (q :: tf)) (h : H q = some o) (mu : Mutb o) (mu' : Mutb o') : Good C fs env σ (upd H q o') (q :: tf) := by
  have hn : ∀ i, q ∉ fs.getD i [] := fun i hi => G.apartT hi (by simp)
  refine ⟨G.le, G.lf, fun i d e => ?_, G.nd, G.own, fun a ha => ?_, fun a o2 e na => ?_, fun a ha => ?_⟩
  · obtain ⟨v, h1, h2⟩ := G.rep i d e
    exact ⟨v, h1, h2.keep (fun a ha => upd_ne fun z => hn i (z ▸ ha)) (mono_upd h mu)⟩
  · by_cases hq : a = q
    · subst hq; exact ⟨o', upd_same, mu'⟩
    · obtain ⟨o2, h1, h2⟩ := G.trk a ha; exact ⟨o2, by rw [upd_ne hq]; exact h1, h2⟩
  · have hq : a ≠ q := fun z => by
      subst z
      rcases G.own a (by simp) with z | z
      · exact na z
      · rw [z] at e; cases e
    rw [upd_ne hq]; exact G.fr a o2 e na
  · obtain ⟨ob, u, e⟩ := G.lk a ha
    have hq : a ≠ q := fun z => by subst z; rw [h] at e; cases e; exact mu
    exact ⟨ob, u, by rw [upd_ne hq]; exact e⟩
theorem Step.updT {q : Addr} {o o' : HO} (G : Good C fs env σ H (q :: tf)) (h : H q = some o) (mu : Mutb o) : Step [] tf fs env H fs env (upd H q o') := by
  have nd := (List.nodup_append.mp G.nd).2.1
  refine ⟨fun a ha => upd_ne fun z => ?_, fun _ _ => rfl, fun _ _ => rfl, fun i _ a ha => upd_ne fun z => G.apartT (z ▸ ha) (by simp), mono_upd h mu⟩
  subst z
  exact (List.nodup_cons.mp nd).1 ha

/-! ### [e for x in xs if t] -/
def lcRun (vs : List Nat) (g : D → Env → Option Env) (ct : CT) (ce : CE) : List D → Env → Option (List D × Env)
  | [], env => some ([], env)
  | d :: ds, env => match g d env with
    | none => none
    | some env1 => if env1.length = env.length then (match ct env1 with
      | .ok true env2 => (match ce env2 with
        | .ok y env3 => (lcRun vs g ct ce ds (wipeE env3 vs)).map fun r => (y :: r.1, r.2)
        | _ => none)
      | .ok false env2 => lcRun vs g ct ce ds (wipeE env2 vs)
      | _ => none) else none
def clearE (env : Env) (vs : List Nat) : Bool := vs.all fun i => match env[i]? with
  | some (some d) => d.imm
  | _ => true
def cLc (src : CA) (vs : List Nat) (g : D → Env → Option Env) (ct : CT) (ce : CE) : CE := fun env => (src env).bind fun ds env1 =>
  if clearE env1 vs = true ∧ ds.length ≤ sizeLine then (match lcRun vs g ct ce ds (wipeE env1 vs) with
    | some r => .ok (.lst .m r.1) (backE env1 r.2 vs)
    | none => .err) else .err
abbrev W0 : WX := fun _ _ _ _ => False
theorem lc_go {ce : CE} {vs : List Nat} {t : TI} (q : ∀ C fs env σ H tf Q, C.At X → Good C fs env σ H tf → PostI W C M1 R1 tf fs env σ H Q (src env) → t σ H Q) (hd : djB R1 (vs ++ (M2 ++ (M3 ++ M4))) = true) (hV : (V2.all fun i => vs.contains i) = true) :
    ∀ C fs env σ H tf Q, C.At X → Good C fs env σ H tf → PostO W C (M1 ++ (vs ++ (M2 ++ (M3 ++ M4)))) tf fs env σ H Q (cLc src vs g ct ce env) → tLc t (tG X.K X.mg M2 V2 g) (tT X.K X.mg W0 M3 ct) (tO X.K X.mg W0 M4 ce) vs σ H Q := by
  intro C fs env σ H tf Q hC G po
  show t σ H fun J H1 => _
  refine q C fs env σ H tf _ hC G ?_
  unfold cLc at po
  cases e1 : src env with
  | err => rw [e1] at po; exact po
  | ex x env' => rw [e1] at po; exact fun cv dd fs' H' G' s => po cv dd fs' H' G' (s.weak mem_l fun _ z => z)
  | ok ds env1 =>
    rw [e1] at po
    intro J fs1 H1 fp own1 G1 s1 src1 i1 Dd hD
    have po1 : PostO W C (M1 ++ (vs ++ (M2 ++ (M3 ++ M4)))) tf fs env σ H Q (if clearE env1 vs = true ∧ ds.length ≤ sizeLine then (match lcRun vs g ct ce ds (wipeE env1 vs) with
      | some r => .ok (.lst .m r.1) (backE env1 r.2 vs)
      | none => .err) else .err) := po
    by_cases hcl : clearE env1 vs = true ∧ ds.length ≤ sizeLine
    case neg => rw [if_neg hcl] at po1; exact po1.elim
    rw [if_pos hcl] at po1
    cases el : lcRun vs g ct ce ds (wipeE env1 vs) with
    | none => rw [el] at po1; exact po1.elim
    | some r =>
      rw [el] at po1
      obtain ⟨all, envF⟩ := r
      have po2 := PostO.step s1 po1
      have dj := djB_ok hd
      have le := Le.new (o := .lst []) hD
      have hb : ∀ i ∈ vs, ∀ d, env1[i]? = some (some d) → ∃ v, σ[i]? = some (some v) ∧ Rep C H1 d v [] := fun i hi d e => by
        obtain ⟨v, h1, h2⟩ := G1.rep i d e
        have := (List.all_eq_true.mp hcl.1) i hi
        rw [e] at this
        have z := h2.imm this
        rw [z] at h2
        exact ⟨v, h1, h2⟩
      have sub : ∀ x ∈ own1 ++ tf, x ∈ Dd :: (own1 ++ tf) := fun x hx => List.mem_cons_of_mem _ hx
      refine lc_it (n := ds.length) src1.walk (fun i H' => ∃ fs' env' acc fpa ys ys', Good C fs' env' (wipe σ vs) H' (Dd :: (fpa ++ (own1 ++ tf))) ∧ H' Dd = some (.lst acc) ∧ Reps C H' ys acc fpa ∧ acc.length ≤ i ∧ Step (vs ++ (M2 ++ (M3 ++ M4))) (own1 ++ tf) fs1 env1 H1 fs' env' H' ∧ lcRun vs g ct ce (ds.drop i) env' = some (ys', envF) ∧ all = ys ++ ys')
        ⟨wipeF fs1 vs, wipeE env1 vs, [], [], [], all, (G1.new (o := .lst []) hD trivial).wipe vs, upd_same, ⟨rfl, rfl⟩, Nat.le_refl _, ?_, by simpa using el, rfl⟩ ?_ ?_ ?_
      · have := (Step.grow (M := []) G1 le).trans (Step.wipe (fs := fs1) (env := env1) (tf := own1 ++ tf) (H := upd H1 Dd (.lst [])) vs)
        exact this.weak (fun i hi => List.mem_append_left _ (by simpa using hi)) fun _ z => z
      · rintro i H' hi ⟨fs', env', acc, fpa, ys, ys', G', hD', rs, hl, s', _, _⟩
        exact ⟨G'.fr, s'.m, i1.keep s' dj⟩
      · rintro i x H' H2 hi ⟨fs', env', acc, fpa, ys, ys', G', hD', rs, hl, s', hrun, hall⟩ ⟨le2, d, hd', rd⟩
        have hdrop : ds.drop i = d :: ds.drop (i + 1) := by
          rw [List.drop_eq_getElem_cons hi]
          obtain ⟨_, h⟩ := List.getElem?_eq_some_iff.mp hd'
          rw [h]
        rw [hdrop] at hrun
        unfold lcRun at hrun
        have G2 := G'.le' le2
        have sA := s'.trans (Step.grow (M := []) (G'.sub (tf' := own1 ++ tf) ((List.sublist_append_right _ _).trans (List.sublist_cons_self _ _))) le2)
        refine ⟨C, fs', env', Dd :: (fpa ++ (own1 ++ tf)), d, [], hC.1, hC.2, G2, rd, ?_⟩
        cases eg : g d env' with
        | none => rw [eg] at hrun; cases hrun
        | some e2 =>
          rw [eg] at hrun
          simp only at hrun
          by_cases hlen : e2.length = env'.length
          case neg => rw [if_neg hlen] at hrun; cases hrun
          rw [if_pos hlen] at hrun
          intro fs3 σ3 H3 G3 s3
          have hw : wipe σ3 vs = wipe σ vs := by
            refine wipe_eq ?_ fun j hj => s3.v j fun hj2 => hj ?_
            · rw [← G3.le, hlen, G2.le, wipe_length]
            · have := (List.all_eq_true.mp hV) j hj2
              simpa using this
          refine ⟨hw, C, fs3, e2, Dd :: (fpa ++ (own1 ++ tf)), hC.1, hC.2, G3, ?_⟩
          have sB := sA.trans (s3.s.weak (fun _ z => z) (tf' := own1 ++ tf) fun y hy => List.mem_cons_of_mem _ (List.mem_append_right _ hy))
          -- the turn's end
          have fin : ∀ {fs5 : FPs} {e5 : Env} {H5 : Hp} {acc' fpa' ys1 ys2}, Good C fs5 e5 σ3 H5 (Dd :: (fpa' ++ (own1 ++ tf))) → H5 Dd = some (.lst acc') → Reps C H5 ys1 acc' fpa' → acc'.length ≤ i + 1 → Step (M3 ++ M4) (own1 ++ tf) fs3 e2 H3 fs5 e5 H5 → lcRun vs g ct ce (ds.drop (i + 1)) (wipeE e5 vs) = some (ys2, envF) → all = ys1 ++ ys2 →
              ∃ fs' env' acc fpa ys ys', Good C fs' env' (wipe σ vs) H5 (Dd :: (fpa ++ (own1 ++ tf))) ∧ H5 Dd = some (.lst acc) ∧ Reps C H5 ys acc fpa ∧ acc.length ≤ i + 1 ∧ Step (vs ++ (M2 ++ (M3 ++ M4))) (own1 ++ tf) fs1 env1 H1 fs' env' H5 ∧ lcRun vs g ct ce (ds.drop (i + 1)) env' = some (ys', envF) ∧ all = ys ++ ys' := fun {fs5 e5 H5 acc' fpa' ys1 ys2} G5 h5 r5 l5 s5 h6 h7 => by
            have Gw := G5.wipe vs
            rw [hw] at Gw
            refine ⟨_, _, acc', fpa', ys1, ys2, Gw, h5, r5, l5, ?_, h6, h7⟩
            have := (sB.trans s5).trans (Step.wipe (fs := fs5) (env := e5) (tf := own1 ++ tf) (H := H5) vs)
            refine this.weak (fun j hj => ?_) fun _ z => z
            simp only [List.mem_append, List.not_mem_nil, or_false] at hj ⊢
            rcases hj with ((h | h) | h) | h
            · exact h
            · exact .inr (.inl h)
            · exact .inr (.inr h)
            · exact .inl h
          have r3 : Reps C H3 ys acc fpa := (rs.le le2).keep (fun a ha => s3.s.t a (by simp [ha])) s3.s.m
          have hD3 : H3 Dd = some (.lst acc) := by rw [s3.s.t Dd (by simp)]; exact le2 _ _ hD'
          cases et : ct e2 with
          | err => rw [et] at hrun; cases hrun
          | ex x e3 => rw [et] at hrun; cases hrun
          | ok b e3 =>
            rw [et] at hrun
            intro fs4 H4 G4 s4
            have r4 : Reps C H4 ys acc fpa := r3.keep (fun a ha => s4.t a (by simp [ha])) s4.m
            have hD4 : H4 Dd = some (.lst acc) := by rw [s4.t Dd (by simp)]; exact hD3
            have s4' := s4.weak (fun _ z => z) (tf' := own1 ++ tf) fun y hy => List.mem_cons_of_mem _ (List.mem_append_right _ hy)
            cases b with
            | false =>
              rw [if_neg (by simp)]
              exact fin G4 hD4 r4 (by omega) (s4'.weak mem_l fun _ z => z) hrun hall
            | true =>
              rw [if_pos rfl]
              refine ⟨C, fs4, e3, Dd :: (fpa ++ (own1 ++ tf)), hC.1, hC.2, G4, ?_⟩
              simp only at hrun
              cases ee : ce e3 with
              | err => rw [ee] at hrun; cases hrun
              | ex x e4 => rw [ee] at hrun; cases hrun
              | ok y e4 =>
                rw [ee] at hrun
                obtain ⟨⟨zs, eF⟩, h1, h2⟩ := Option.map_eq_some_iff.mp hrun
                cases h2
                intro v fs5 H5 fp5 G5 s5 r5
                have hD5 : H5 Dd = some (.lst acc) := by rw [s5.t Dd (by simp)]; exact hD4
                have ra : Reps C H5 ys acc fpa := r4.keep (fun a ha => s5.t a (by simp [ha])) s5.m
                have pm : (Dd :: ((fpa ++ fp5) ++ (own1 ++ tf))).Perm (fp5 ++ (Dd :: (fpa ++ (own1 ++ tf)))) := by
                  refine List.Perm.trans (List.Perm.cons _ ?_) (List.perm_middle.symm)
                  rw [List.append_assoc]
                  exact List.perm_append_comm_assoc _ _ _
                have G6 := G5.perm pm
                have nd6 := (List.nodup_append.mp G6.nd).2.1
                have hnot : Dd ∉ fpa ++ fp5 := fun z => (List.nodup_cons.mp nd6).1 (List.mem_append_left _ z)
                refine ⟨acc, hD5, by have := hcl.2; omega, ?_⟩
                have mo := mono_upd (o' := .lst (acc ++ [v])) hD5 trivial
                have kp : ∀ a ∈ fpa ++ fp5, (upd H5 Dd (.lst (acc ++ [v]))) a = H5 a := fun a ha => upd_ne fun z => hnot (z ▸ ha)
                have G7 := G6.updT (o' := .lst (acc ++ [v])) hD5 trivial trivial
                refine fin (ys1 := ys ++ [y]) (ys2 := zs) G7 upd_same (reps_append (ra.keep (fun a ha => kp a (List.mem_append_left _ ha)) mo) ⟨v, [], fp5, [], rfl, r5.keep (fun a ha => kp a (List.mem_append_right _ ha)) mo, ⟨rfl, rfl⟩, by simp⟩) (by simp; omega) ?_ h1 (by rw [hall]; simp)
                have s5' := s5.weak (fun _ z => z) (tf' := own1 ++ tf) fun y hy => List.mem_cons_of_mem _ (List.mem_append_right _ hy)
                have s6 := Step.updT (o' := .lst (acc ++ [v])) G6 hD5 trivial
                have s6' := s6.weak (fun _ z => z) (tf' := own1 ++ tf) fun y hy => List.mem_append_right _ hy
                have := (s4'.trans s5').trans s6'
                simpa using this
      · rintro H' ⟨fs', env', acc, fpa, ys, ys', G', hD', rs, hl, s', hrun, hall⟩
        rw [List.drop_length] at hrun
        unfold lcRun at hrun
        cases hrun
        rw [List.append_nil] at hall
        subst hall
        have Gb := G'.back (env1 := env1) fun i hi d e => by
          obtain ⟨v, h1, h2⟩ := hb i hi d e
          exact ⟨v, h1, h2.keep (fun _ z => nomatch z) s'.m⟩
        refine po2 (.ref Dd) _ H' (Dd :: fpa) (Gb.sub ?_) ?_ ⟨Dd, acc, [Dd], fpa, rfl, ⟨hD', rfl⟩, rs, .inl rfl, rfl⟩
        · refine List.Sublist.cons₂ _ ?_
          exact (List.Sublist.refl fpa).append (List.sublist_append_right _ _)
        · have sb : Step vs (own1 ++ tf) fs' envF H' (wipeF fs' vs) (backE env1 envF vs) H' :=
            ⟨fun _ _ => rfl, fun i hi => by rw [wipeF_get, if_neg hi], fun i hi => by rw [backE_get, if_neg hi], fun _ _ _ _ => rfl, .refl H'⟩
          refine (s'.trans sb).weak (fun j hj => ?_) fun y hy => List.mem_append_right _ hy
          simp only [List.mem_append] at hj ⊢
          rcases hj with (h | h) | h
          · exact .inl h
          · exact .inr h
          · exact .inl h
theorem so_lc {scope : Scope} {own : List (Str × Nat)} (vs : List Nat) {iter elt : Expr} {ce : CE} (hc : X.calm = true) (hN : X.N.Nodup) (hi : SI X W M1 R1 tg iter src) (ok : BlkOk X.N X.env.scope scope own)
    (hg : ∀ (s : Shared) (H : Hp) (B : Addr) (cl : List (Str × Addr)) (fp : List Addr), SG (X.blk s H scope (compEnvC scope cl B X.env) fp) M2 V2 tg g)
    (ht : ∀ (s : Shared) (H : Hp) (B : Addr) (cl : List (Str × Addr)) (fp : List Addr), STs (X.blk s H scope (compEnvC scope cl B X.env) fp) W0 M3 ifs ct)
    (he : ∀ (s : Shared) (H : Hp) (B : Addr) (cl : List (Str × Addr)) (fp : List Addr), SO (X.blk s H scope (compEnvC scope cl B X.env) fp) W0 M4 elt ce)
    (hvs : own.map (·.2) = vs) (hd : djB R1 (vs ++ (M2 ++ (M3 ++ M4))) = true) (hV : (V2.all fun i => vs.contains i) = true) (hs : ∀ x, foldedSetIterable iter X.env x = pure x) :
    SO X W (M1 ++ (vs ++ (M2 ++ (M3 ++ M4)))) (.ListComp elt [⟨tg, iter, ifs, 0⟩] scope pos) (cLc src vs g ct ce) := by
  subst hvs
  obtain ⟨t, p, q⟩ := hi.go
  exact ⟨tLc t (tG X.K X.mg M2 V2 g) (tT X.K X.mg W0 M3 ct) (tO X.K X.mg W0 M4 ce) (own.map (·.2)), pe_lc (own := own) hc hN p ok (fun s H B cl fp => (hg s H B cl fp).canon) (fun s H B cl fp => (ht s H B cl fp).go) (fun s H B cl fp => (he s H B cl fp).canon) hs, lc_go q hd hV⟩
theorem ss_setLc {scope : Scope} {own : List (Str × Nat)} (vs : List Nat) {i : Nat} {y : Str} {py spos : Pos} {iter elt : Expr} {ce : CE} (hc : X.calm = true) (hN : X.N.Nodup) (hi : SI X W M1 R1 tg iter src) (ok : BlkOk X.N X.env.scope scope own)
    (hg : ∀ (s : Shared) (H : Hp) (B : Addr) (cl : List (Str × Addr)) (fp : List Addr), SG (X.blk s H scope (compEnvC scope cl B X.env) fp) M2 V2 tg g)
    (ht : ∀ (s : Shared) (H : Hp) (B : Addr) (cl : List (Str × Addr)) (fp : List Addr), STs (X.blk s H scope (compEnvC scope cl B X.env) fp) W0 M3 ifs ct)
    (he : ∀ (s : Shared) (H : Hp) (B : Addr) (cl : List (Str × Addr)) (fp : List Addr), SO (X.blk s H scope (compEnvC scope cl B X.env) fp) W0 M4 elt ce)
    (hvs : own.map (·.2) = vs) (hd : djB R1 (vs ++ (M2 ++ (M3 ++ M4))) = true) (hV : (V2.all fun i => vs.contains i) = true) (hs : ∀ x, foldedSetIterable iter X.env x = pure x)
    (hy : X.N[i]? = some y) (hyl : X.env.scope.names.lookup y = some .local) (hsw : swapsWith (.ListComp elt [⟨tg, iter, ifs, 0⟩] scope pos) (some (.Name y py)) spos.line X.env = pure true) :
    SS X W ((M1 ++ (vs ++ (M2 ++ (M3 ++ M4)))) ++ [i]) [i] (.Assign [.Name y py] (.ListComp elt [⟨tg, iter, ifs, 0⟩] scope pos) spos) (sAsg (cLc src vs g ct ce) (gSet i)) := by
  subst hvs
  obtain ⟨t, p, q⟩ := hi.go
  refine ⟨tAsg (tLc t (tG X.K X.mg M2 V2 g) (tT X.K X.mg W0 M3 ct) (tO X.K X.mg W0 M4 ce) (own.map (·.2))) (gName i), ps_setLc (own := own) hc hN hy hyl hsw p ok (fun s H B cl fp => (hg s H B cl fp).canon) (fun s H B cl fp => (ht s H B cl fp).go) (fun s H B cl fp => (he s H B cl fp).canon) hs, fun C fs env σ H tf E hC G po => ?_⟩
  exact asg_go (gd := gSet i) (M2 := [i]) (V2 := [i]) hC G (lc_go q hd hV) (fun C fs env σ H tf Q d v fp hC G r po => po _ _ _ (G.put r) (StepS.put G)) po
end
end VS

set_option maxRecDepth 100000
namespace VS
open PySem L2 SeqAt
section
variable {X : Cx} {W : WX} {M M1 M2 M3 M4 V1 V2 V3 Rs R1 R2 R3 : List Nat} {e a b c tg : Expr} {es ifs : List Expr} {ca cb cc : CE} {cs src : CA} {ct : CT} {pos p : Pos} {g : D → Env → Option Env}
variable {pins : List (Addr × Obj)} {σ σ' : St} {H H1 H2 H' : Hp} {s : Shared} {C C' : Ctx}
/-- a new list of what may be shared -/
theorem Comes.lst {ds : List D} {vs : List V} {f : List Addr} {Q : VK} (k : Comes C H (.lst .m ds) Q) (r : Reps C H ds vs f) (hi : imms ds = true) {l : Addr} (hl : H l = none) : Q (.ref l) (upd H l (.lst vs)) := by
  have e := r.imm hi
  subst e
  have le := Le.new (o := .lst vs) hl
  exact k (.ref l) _ [l] le ⟨l, vs, [l], [], rfl, ⟨upd_same, rfl⟩, r.le le, .inl rfl, rfl⟩ (by simp) fun a ha => by simp at ha; subst ha; exact hl
theorem Comes.tup {ds : List D} {vs : List V} {f : List Addr} {Q : VK} (k : Comes C H (.tup ds) Q) (r : Reps C H ds vs f) (hi : imms ds = true) {l : Addr} (hl : H l = none) : Q (.ref l) (upd H l (.tup vs)) := by
  have e := r.imm hi
  subst e
  have le := Le.new (o := .tup vs) hl
  exact k (.ref l) _ [] le ⟨l, vs, rfl, SqT.of upd_same, r.le le⟩ .nil fun _ z => nomatch z
theorem imms_append : ∀ {ds es : List D}, imms (ds ++ es) = (imms ds && imms es)
  | [], es => by simp [imms]
  | d :: ds, es => by rw [List.cons_append, imms, imms, imms_append, Bool.and_assoc]

/-! ### list(x), tuple(x) -/
def pList : List D → Option D
  | [.lst _ ds] => if imms ds then some (.lst .m ds) else none
  | [.tup ds] => if imms ds then some (.lst .m ds) else none
  | _ => none
theorem od_list : ODL X (.type "list") pList := by
  refine ODL.of call_list_of fun xs H Q ⟨C, ds, fx, d, hC, hF, rs, e, k⟩ => ?_
  unfold pList at e
  split at e
  · rename_i g zs
    split at e <;> cases e
    rename_i hi
    obtain ⟨v, rfl, r⟩ := reps1 rs
    obtain ⟨a, vs, f, rfl, q, rz⟩ := rep_list hC hF r
    exact ⟨a, vs, rfl, .inl q, fun l hl => k.lst rz hi hl⟩
  · rename_i zs
    split at e <;> cases e
    rename_i hi
    obtain ⟨v, rfl, r⟩ := reps1 rs
    obtain ⟨a, vs, rfl, q, rz⟩ := rep_tup hC r
    exact ⟨a, vs, rfl, .inr q, fun l hl => k.lst rz hi hl⟩
  · cases e
def pTuple : List D → Option D
  | [.lst _ ds] => if imms ds then some (.tup ds) else none
  | [.tup ds] => if imms ds then some (.tup ds) else none
  | _ => none
theorem od_tuple : ODL X (.type "tuple") pTuple := by
  refine ODL.of call_tuple_of fun xs H Q ⟨C, ds, fx, d, hC, hF, rs, e, k⟩ => ?_
  unfold pTuple at e
  split at e
  · rename_i g zs
    split at e <;> cases e
    rename_i hi
    obtain ⟨v, rfl, r⟩ := reps1 rs
    obtain ⟨a, vs, f, rfl, q, rz⟩ := rep_list hC hF r
    exact ⟨a, vs, rfl, .inl ⟨q, fun l hl => k.tup rz hi hl⟩⟩
  · rename_i zs
    split at e <;> cases e
    rename_i hi
    obtain ⟨v, rfl, r⟩ := reps1 rs
    obtain ⟨a, vs, rfl, q, rz⟩ := rep_tup hC r
    have ez := rz.imm hi
    subst ez
    exact ⟨a, vs, rfl, .inr ⟨q, k.here ⟨a, vs, rfl, by rw [hC.1]; exact q, rz⟩⟩⟩
  · cases e

/-! ### x + y of lists, tuples, texts -/
theorem add_meets (l : Addr) (items : Array Value) (n : Nat) (b : Addr) (items2 : Array Value) (n2 : Nat) (sl sl2 : Array (Option Value)) (hc0 : items.size + items2.size ≤ sizeLine) :
    Meets (Builtin.«list.__add__» ⟨[.ref l, .ref b], []⟩) (fun _ R s => s.heap.get? l = some { cls := .type "list", dict := none, data := .seq items n, slots := sl } ∧ s.heap.get? b = some { cls := .type "list", dict := none, data := .seq items2 n2, slots := sl2 } ∧ R (.ok (.ret (Value.ref s.heap.objs.size))) { s with heap := s.heap.push { cls := Value.type "list", data := Data.seq (items ++ items2) }, toks := s.toks }) :=
  .of_wp fun prog w A R s h => by obtain ⟨hp, g, d, tk, os⟩ := s; obtain ⟨hl, hb, h⟩ := h; have f3 := PySem.AutoSeq1.sub_list_list; wp_walk using PySem.AutoSeq1.wpAny_loadPart' hl, PySem.AutoSeq1.wpAny_loadPart' hb; exact ⟨_, rfl, h⟩
theorem add_listP {prog : Program} {w : World} {A : Around} {E : Value → Shared → Prop} {s : Shared} {l b : Addr} {items items2 : Array Value} {Q : Value → Shared → Prop} (hl : PlainL s.heap l items) (hb : PlainL s.heap b items2)
    (h : Q (.ref s.heap.objs.size) { s with heap := s.heap.push { cls := .type "list", data := .seq (items ++ items2) } }) (hsz : items.size + items2.size ≤ sizeLine) : wpAny (model prog w) A (binaryOp .Add (.ref l) (.ref b)) Q E s := by
  obtain ⟨⟨c1, d1, da1, sl1⟩, n1, e1, a1, a2, a3⟩ := hl
  obtain ⟨⟨c2, d2, da2, sl2⟩, n2, e2, b1, b2, b3⟩ := hb
  simp only at a1 a2 a3 b1 b2 b3
  subst a1 a2 a3 b1 b2 b3
  exact PySem.concat_meets ⟨_, e1, rfl⟩ ⟨_, e2, rfl⟩ noFill_list_add seq_list_add F.slot_list_add F.entry_list_add (F.args_list_add_2 _ _) (add_meets l items n1 b items2 n2 sl1 sl2 hsz) ⟨e1, e2, h⟩
def pCatL : D → D → Option D
  | .lst _ xs, .lst _ ys => if imms xs && imms ys && decide (xs.length + ys.length ≤ sizeLine) then some (.lst .m (xs ++ ys)) else none
  | _, _ => none
theorem od_catL : OD2 X (binaryOp .Add) pCatL := by
  intro pins s σ H x y v u Q I rx ry ⟨C, dx, dy, fx, fy, d, hC, hF, r1, r2, e, k⟩
  unfold pCatL at e
  split at e
  · rename_i g xs g' ys
    split at e <;> cases e
    rename_i hi
    simp only [Bool.and_eq_true, decide_eq_true_eq] at hi
    obtain ⟨⟨h1, h2⟩, h3⟩ := hi
    obtain ⟨a, vs, f, rfl, q, rz⟩ := rep_list hC hF r1
    obtain ⟨b, ws, f', rfl, q', rz'⟩ := rep_list hC hF r2
    cases rx
    cases ry
    obtain ⟨its, r, pl, hz⟩ := I.list q
    obtain ⟨its2, r', pl2, hz2⟩ := I.list q'
    have l1 := reps_length rz
    have l2 := reps_length rz'
    have m1 := r.length
    have m2 := r'.length
    refine add_listP pl pl2 ?_ (by rw [List.size_toArray, List.size_toArray]; omega)
    have ea : its.toArray ++ its2.toArray = (its ++ its2).toArray := by simp
    rw [ea]
    exact ⟨.ref _, _, I.lnew (t' := s.toks) (r.append r') (by rw [List.length_append]; omega), rfl, k.lst (reps_append rz rz') (by rw [imms_append, h1, h2]; rfl) I.fresh⟩
  · cases e
end
end VS

set_option maxRecDepth 100000
namespace VS
open PySem L2 SeqAt
section
variable {X : Cx} {W : WX} {M M1 M2 M3 M4 V1 V2 V3 Rs R1 R2 R3 : List Nat} {e a b c tg : Expr} {es ifs : List Expr} {ca cb cc : CE} {cs src : CA} {ct : CT} {pos p : Pos} {g : D → Env → Option Env}
variable {pins : List (Addr × Obj)} {σ σ' : St} {H H1 H2 H' : Hp} {s : Shared} {C C' : Ctx}
def pCatT : D → D → Option D
  | .tup xs, .tup ys => if imms xs && imms ys && decide (xs.length + ys.length ≤ sizeLine) then some (.tup (xs ++ ys)) else none
  | _, _ => none
theorem od_catT : OD2 X (binaryOp .Add) pCatT := by
  refine OD2.of op_catA fun x y H Q ⟨C, dx, dy, fx, fy, d, hC, hF, r1, r2, e, k⟩ => ?_
  unfold pCatT at e
  split at e
  · rename_i xs ys
    split at e <;> cases e
    rename_i hi
    simp only [Bool.and_eq_true, decide_eq_true_eq] at hi
    obtain ⟨⟨h1, h2⟩, h3⟩ := hi
    obtain ⟨a, vs, rfl, q, rz⟩ := rep_tup hC r1
    obtain ⟨b, ws, rfl, q', rz'⟩ := rep_tup hC r2
    have l1 := reps_length rz
    have l2 := reps_length rz'
    have ez := rz.imm h1
    have ez' := rz'.imm h2
    subst ez ez'
    refine ⟨a, b, vs, ws, rfl, rfl, q, q', by omega, fun e0 => ?_, fun e0 e1 => ?_, fun e0 e1 p hp => k.tup (reps_append rz rz') (by rw [imms_append, h1, h2]; rfl) hp⟩
    · subst e0
      cases xs with
      | nil => exact k.here ⟨b, ws, rfl, by rw [hC.1]; exact q', rz'⟩
      | cons x xs => simp at l1
    · subst e1
      cases ys with
      | nil => rw [List.append_nil] at k; exact k.here ⟨a, vs, rfl, by rw [hC.1]; exact q, rz⟩
      | cons x xs => simp at l2
  · cases e
def pCatS : D → D → Option D
  | .str x, .str y => if x.length + y.length ≤ sizeLine then some (.str (x ++ y)) else none
  | _, _ => none
theorem od_catS : OD2 X (binaryOp .Add) pCatS := by
  refine OD2.of op_add_str fun x y H Q ⟨C, dx, dy, fx, fy, d, hC, hF, r1, r2, e, k⟩ => ?_
  unfold pCatS at e
  split at e
  · split at e <;> cases e
    rename_i hz
    obtain ⟨rfl, _⟩ := r1
    obtain ⟨rfl, _⟩ := r2
    exact ⟨_, _, rfl, rfl, hz, k.here ⟨rfl, rfl⟩⟩
  · cases e
def pAdd : D → D → Option D := orP2 pAddI (orP2 pCatL (orP2 pCatT pCatS))
theorem od_add : OD2 X (binaryOp .Add) pAdd := OD2.or od_addI (OD2.or od_catL (OD2.or od_catT od_catS))

/-! ### lists of one kind -/
def bls : List D → Option (List Bool)
  | [] => some []
  | .bl b :: ds => (bls ds).map (b :: ·)
  | _ => none
def intsD : List D → Option (List Int)
  | [] => some []
  | .int b :: ds => (intsD ds).map (b :: ·)
  | _ => none
def strsD : List D → Option (List Str)
  | [] => some []
  | .str b :: ds => (strsD ds).map (b :: ·)
  | _ => none
theorem bls_rep : ∀ {ds : List D} {bs : List Bool} {vs : List V} {f : List Addr}, bls ds = some bs → Reps C H ds vs f → vs = bs.map V.bl
  | [], bs, vs, f, h, r => by cases h; exact r.1
  | d :: ds, bs, vs, f, h, ⟨v, vs', f1, f2, e, r, rs, _⟩ => by
    cases d <;> simp only [bls] at h <;> try cases h
    obtain ⟨bs', h1, rfl⟩ := Option.map_eq_some_iff.mp h
    rw [e, bls_rep h1 rs, r.1]; rfl
theorem ints_rep : ∀ {ds : List D} {bs : List Int} {vs : List V} {f : List Addr}, intsD ds = some bs → Reps C H ds vs f → vs = bs.map V.int
  | [], bs, vs, f, h, r => by cases h; exact r.1
  | d :: ds, bs, vs, f, h, ⟨v, vs', f1, f2, e, r, rs, _⟩ => by
    cases d <;> simp only [intsD] at h <;> try cases h
    obtain ⟨bs', h1, rfl⟩ := Option.map_eq_some_iff.mp h
    rw [e, ints_rep h1 rs, r.1]; rfl
theorem strs_rep : ∀ {ds : List D} {bs : List Str} {vs : List V} {f : List Addr}, strsD ds = some bs → Reps C H ds vs f → vs = bs.map V.str
  | [], bs, vs, f, h, r => by cases h; exact r.1
  | d :: ds, bs, vs, f, h, ⟨v, vs', f1, f2, e, r, rs, _⟩ => by
    cases d <;> simp only [strsD] at h <;> try cases h
    obtain ⟨bs', h1, rfl⟩ := Option.map_eq_some_iff.mp h
    rw [e, strs_rep h1 rs, r.1]; rfl
@[simp] theorem intsD_ints : ∀ ns : List Int, intsD (ns.map D.int) = some ns
  | [] => rfl
  | n :: ns => by simp [intsD, intsD_ints ns]
@[simp] theorem bls_bls : ∀ ns : List Bool, bls (ns.map D.bl) = some ns
  | [] => rfl
  | n :: ns => by simp [bls, bls_bls ns]
@[simp] theorem strsD_strs : ∀ ns : List Str, strsD (ns.map D.str) = some ns
  | [] => rfl
  | n :: ns => by simp [strsD, strsD_strs ns]
theorem reps_strs {C : Ctx} {H : Hp} : ∀ ns : List Str, Reps C H (ns.map D.str) (ns.map V.str) []
  | [] => ⟨rfl, rfl⟩
  | n :: ns => ⟨.str n, ns.map V.str, [], [], rfl, ⟨rfl, rfl⟩, reps_strs ns, rfl⟩
@[simp] theorem imms_strs : ∀ ns : List Str, imms (ns.map D.str) = true
  | [] => rfl
  | n :: ns => by simp [imms_strs ns]

/-! ### all, any, sum, sorted -/
def pAll : List D → Option D
  | [.lst _ ds] => (bls ds).map fun bs => .bl (bs.all id)
  | _ => none
def pAny : List D → Option D
  | [.lst _ ds] => (bls ds).map fun bs => .bl (bs.any id)
  | _ => none
def pSum : List D → Option D
  | [.lst _ ds] => (intsD ds).map fun bs => .int bs.sum
  | _ => none
def sortI (ns : List Int) : List Int := ns.mergeSort fun a b => decide (a ≤ b)
def pSortedI : List D → Option D
  | [.lst _ ds] => (intsD ds).map fun bs => .lst .m ((sortI bs).map D.int)
  | _ => none
theorem od_all (hc : X.calm = true) : ODL X (.builtin "all") pAll := by
  refine ODL.of (cr_all hc) fun xs H Q ⟨C, ds, fx, d, hC, hF, rs, e, k⟩ => ?_
  unfold pAll at e
  split at e
  · obtain ⟨bs, h, rfl⟩ := Option.map_eq_some_iff.mp e
    obtain ⟨v, rfl, r⟩ := reps1 rs
    obtain ⟨a, vs, f, rfl, q, rz⟩ := rep_list hC hF r
    have := bls_rep h rz
    subst this
    exact ⟨a, bs, rfl, q, k.here ⟨rfl, rfl⟩⟩
  · cases e
theorem od_any (hc : X.calm = true) : ODL X (.builtin "any") pAny := by
  refine ODL.of (cr_any hc) fun xs H Q ⟨C, ds, fx, d, hC, hF, rs, e, k⟩ => ?_
  unfold pAny at e
  split at e
  · obtain ⟨bs, h, rfl⟩ := Option.map_eq_some_iff.mp e
    obtain ⟨v, rfl, r⟩ := reps1 rs
    obtain ⟨a, vs, f, rfl, q, rz⟩ := rep_list hC hF r
    have := bls_rep h rz
    subst this
    exact ⟨a, bs, rfl, q, k.here ⟨rfl, rfl⟩⟩
  · cases e
theorem od_sum (hc : X.calm = true) : ODL X (.builtin "sum") pSum := by
  refine ODL.of (cr_sum hc) fun xs H Q ⟨C, ds, fx, d, hC, hF, rs, e, k⟩ => ?_
  unfold pSum at e
  split at e
  · obtain ⟨bs, h, rfl⟩ := Option.map_eq_some_iff.mp e
    obtain ⟨v, rfl, r⟩ := reps1 rs
    obtain ⟨a, vs, f, rfl, q, rz⟩ := rep_list hC hF r
    have := ints_rep h rz
    subst this
    exact ⟨a, bs, rfl, q, k.here ⟨rfl, rfl⟩⟩
  · cases e
theorem sortI_of {ns ns' : List Int} (h1 : ns'.Perm ns) (h2 : ns'.Pairwise (· ≤ ·)) : ns' = sortI ns := by
  have h3 : (sortI ns).Pairwise (· ≤ ·) := by
    have := List.pairwise_mergeSort (le := fun a b : Int => decide (a ≤ b)) (fun a b c h1 h2 => by simp at *; omega) (fun a b => by simp; omega) ns
    exact this.imp fun h => by simpa using h
  exact List.Perm.eq_of_pairwise (le := (· ≤ ·)) (fun a b _ _ h1 h2 => by omega) h2 h3 (h1.trans (List.mergeSort_perm _ _).symm)
theorem reps_intsR {C : Ctx} {H : Hp} (ns : List Int) : Reps C H (ns.map D.int) (ns.map V.int) [] := reps_ints ns
theorem od_sortedI : ODL X (.builtin "sorted") pSortedI := by
  refine ODL.of cr_sortedI fun xs H Q ⟨C, ds, fx, d, hC, hF, rs, e, k⟩ => ?_
  unfold pSortedI at e
  split at e
  · obtain ⟨bs, h, rfl⟩ := Option.map_eq_some_iff.mp e
    obtain ⟨v, rfl, r⟩ := reps1 rs
    obtain ⟨a, vs, f, rfl, q, rz⟩ := rep_list hC hF r
    have := ints_rep h rz
    subst this
    refine ⟨a, bs, rfl, q, fun ns' p h1 h2 hp => ?_⟩
    rw [sortI_of h1 h2]
    exact k.lst (reps_ints _) (imms_ints _) hp
  · cases e

/-! ### slices -/
def cutD (xs : List D) (lo hi : Option Int) : List D := (xs.drop (HT.sIx xs.length 0 lo)).take (HT.sIx xs.length xs.length hi - HT.sIx xs.length 0 lo)
theorem reps_drop : ∀ {ds : List D} {vs : List V} {f : List Addr} (n : Nat), Reps C H ds vs f → ∃ g1 g2, f = g1 ++ g2 ∧ Reps C H (ds.drop n) (vs.drop n) g2
  | ds, vs, f, 0, r => ⟨[], f, rfl, r⟩
  | [], vs, f, n + 1, r => by obtain ⟨h1, h2⟩ := r; subst h1; exact ⟨[], f, rfl, by simpa using ⟨rfl, h2⟩⟩
  | d :: ds, vs, f, n + 1, ⟨v, vs', f1, f2, e, r, rs, e2⟩ => by
    obtain ⟨g1, g2, h1, h2⟩ := reps_drop n rs
    subst e e2 h1
    exact ⟨f1 ++ g1, g2, by simp, by simpa using h2⟩
theorem reps_take : ∀ {ds : List D} {vs : List V} {f : List Addr} (n : Nat), Reps C H ds vs f → ∃ g1 g2, f = g1 ++ g2 ∧ Reps C H (ds.take n) (vs.take n) g1
  | ds, vs, f, 0, r => ⟨[], f, rfl, rfl, rfl⟩
  | [], vs, f, n + 1, r => by obtain ⟨h1, h2⟩ := r; subst h1; exact ⟨f, [], by simp, by simpa using ⟨rfl, h2⟩⟩
  | d :: ds, vs, f, n + 1, ⟨v, vs', f1, f2, e, r, rs, e2⟩ => by
    obtain ⟨g1, g2, h1, h2⟩ := reps_take n rs
    subst e e2 h1
    exact ⟨f1 ++ g1, g2, by simp, v, vs'.take n, f1, g1, by simp, r, h2, rfl⟩
theorem reps_cut {ds : List D} {vs : List V} (lo hi : Option Int) (r : Reps C H ds vs []) : Reps C H (cutD ds lo hi) (cutV vs lo hi) [] := by
  unfold cutD cutV
  rw [reps_length r]
  obtain ⟨g1, g2, h1, h2⟩ := reps_drop (HT.sIx vs.length 0 lo) r
  have hg : g2 = [] := (List.append_eq_nil_iff.mp h1.symm).2
  subst hg
  obtain ⟨g3, g4, h3, h4⟩ := reps_take (HT.sIx vs.length vs.length hi - HT.sIx vs.length 0 lo) h2
  have hg : g3 = [] := (List.append_eq_nil_iff.mp h3.symm).1
  subst hg
  exact h4
theorem imms_sub : ∀ {ds es : List D}, es.Sublist ds → imms ds = true → imms es = true
  | _, _, .slnil, _ => rfl
  | _, _, .cons a h, hi => imms_sub h (by simp only [imms, Bool.and_eq_true] at hi; exact hi.2)
  | _, _, .cons₂ a h, hi => by simp only [imms, Bool.and_eq_true] at hi ⊢; exact ⟨hi.1, imms_sub h hi.2⟩
theorem cutD_sub (ds : List D) (lo hi : Option Int) : (cutD ds lo hi).Sublist ds := (List.take_sublist _ _).trans (List.drop_sublist _ _)
def pSl : D → Option Int → Option Int → Option D
  | .lst _ ds, lo, hi => if imms ds then some (.lst .m (cutD ds lo hi)) else none
  | .tup ds, lo, hi => if imms ds then some (.tup (cutD ds lo hi)) else none
  | .str z, lo, hi => if z.length ≤ sizeLine then some (.str (cutS z lo hi)) else none
  | _, _, _ => none
def rSlD (X : Cx) : V → Option Int → Option Int → Hp → VK → Prop := fun x lo hi H Q => rSlL X.K x lo hi H Q ∨ (rSlA X.K x lo hi H Q ∨ rSlS x lo hi H Q)
theorem sl_any : SlR X (rSlD X) := sl_list.or (sl_tupA.or sl_str)
theorem sl_ok {d r : D} {v : V} {fp : List Addr} {lo hi : Option Int} {Q : VK} (hC : C.At X) (hF : Fr C H) (rp : Rep C H d v fp) (h : pSl d lo hi = some r) (k : Comes C H r Q) : rSlD X v lo hi H Q := by
  unfold pSl at h
  split at h
  · rename_i g ds
    split at h <;> cases h
    rename_i hi'
    obtain ⟨a, vs, f, rfl, q, rz⟩ := rep_list hC hF rp
    have := rz.imm hi'; subst this
    exact .inl ⟨a, vs, rfl, q, fun p hp => k.lst (reps_cut lo hi rz) (imms_sub (cutD_sub _ _ _) hi') hp⟩
  · rename_i ds
    split at h <;> cases h
    rename_i hi'
    obtain ⟨a, vs, rfl, q, rz⟩ := rep_tup hC rp
    have := rz.imm hi'; subst this
    refine .inr (.inl ⟨a, vs, rfl, q, fun hw => ?_, fun hw p hp => k.tup (reps_cut lo hi rz) (imms_sub (cutD_sub _ _ _) hi') hp⟩)
    have hl := reps_length rz
    have e : cutD ds lo hi = ds := by
      unfold cutD
      rw [hl, hw.1, hw.2, ← hl]; simp
    rw [e] at k
    exact k.here ⟨a, vs, rfl, by rw [hC.1]; exact q, rz⟩
  · rename_i z
    split at h <;> cases h
    rename_i hz
    obtain ⟨rfl, _⟩ := rp
    exact .inr (.inr ⟨z, rfl, hz, k.here ⟨rfl, rfl⟩⟩)
  · cases h

/-- a part of a slice -/
structure SPt (X : Cx) (W : WX) (M : List Nat) (e : Option Expr) (c : Env → R (Option Int)) : Prop where
  go : ∃ t, PO X e t ∧ ∀ C fs env σ H tf Q, C.At X → Good C fs env σ H tf → (match c env with
    | .ok o env' => ∀ fs' H', Good C fs' env' σ H' tf → Step M tf fs env H fs' env' H' → Q o H'
    | .ex x env' => ∀ cv dd fs' H', Good C fs' env' σ H' tf → Step M tf fs env H fs' env' H' → ExIs C x cv dd H' → W cv dd σ H'
    | .err => False) → t σ H Q
def pNo : Env → R (Option Int) := fun env => .ok none env
def pAt (c : CE) : Env → R (Option Int) := fun env => (c env).bind fun d env => match d with
  | .int i => .ok (some i) env
  | _ => .err
theorem sp_no : SPt X W [] none pNo := ⟨tNoPart, po_none, fun C fs env σ H tf Q hC G po => po fs H G .refl⟩
theorem sp_at (h : SB X W M Rs e ca) : SPt X W M (some e) (pAt ca) := by
  obtain ⟨t, p, q⟩ := h.go
  refine ⟨tPart t, po_some p, fun C fs env σ H tf Q hC G po => ?_⟩
  show t σ H fun x H1 => ∃ i, x = .int i ∧ Q (some i) H1
  refine q C fs env σ H tf _ hC G ?_
  unfold pAt at po
  cases e1 : ca env with
  | err => rw [e1] at po; exact po
  | ex x env' => rw [e1] at po; exact po
  | ok d env' =>
    rw [e1] at po
    intro v fs' H' fp own G' s r i1
    cases d with
    | int i => obtain ⟨rfl, _⟩ := r; exact ⟨i, rfl, po fs' H' G'.drop s⟩
    | _ => exact po.elim
def cSl (ca : CE) (lo hi : Env → R (Option Int)) : CE := fun env => (ca env).bind fun d env => (lo env).bind fun l env => (hi env).bind fun h env => R.of (pSl d l h) env
theorem so_slice {p2 : Pos} {lo hi : Option Expr} {cl ch : Env → R (Option Int)} (ha : SB X W M1 R1 a ca) (hl : SPt X W M2 lo cl) (hh : SPt X W M3 hi ch) (hd : djB R1 (M2 ++ M3) = true) : SO X W (M1 ++ (M2 ++ M3)) (.Subscript a (.Slice lo hi none p2) pos) (cSl ca cl ch) := by
  obtain ⟨t, p, q⟩ := ha.go
  obtain ⟨t2, p2', q2⟩ := hl.go
  obtain ⟨t3, p3, q3⟩ := hh.go
  refine ⟨tSl (rSlD X) t t2 t3, pe_slice sl_any p p2' p3, fun C fs env σ H tf Q hC G po => ?_⟩
  show t σ H fun x H1 => t2 σ H1 fun l H2 => t3 σ H2 fun u H3 => rSlD X x l u H3 Q
  have dj := djB_ok hd
  refine q C fs env σ H tf _ hC G ?_
  unfold cSl at po
  cases e1 : ca env with
  | err => rw [e1] at po; exact po
  | ex x env' => rw [e1] at po; exact fun cv dd fs' H' G' s => po cv dd fs' H' G' (s.weak mem_l fun _ z => z)
  | ok d env1 =>
    rw [e1] at po
    intro v fs1 H1 fp own G1 s1 r1 i1
    have po1 := PostO.step s1 po
    refine q2 C fs1 env1 σ H1 (own ++ tf) _ hC G1 ?_
    simp only [R.bind] at po1
    cases e2 : cl env1 with
    | err => rw [e2] at po1; exact po1
    | ex x env' => rw [e2] at po1; exact fun cv dd fs' H' G' s => po1 cv dd fs' H' G'.drop (s.weak mem_l fun x hx => List.mem_append_right _ hx)
    | ok l env2 =>
      rw [e2] at po1
      intro fs2 H2 G2 s2
      have s2' := s2.weak (fun _ z => z) (tf' := tf) fun x hx => List.mem_append_right _ hx
      have po2 := PostO.step s2' po1
      refine q3 C fs2 env2 σ H2 (own ++ tf) _ hC G2 ?_
      simp only at po2
      cases e3 : ch env2 with
      | err => rw [e3] at po2; exact po2
      | ex x env' => rw [e3] at po2; exact fun cv dd fs' H' G' s => po2 cv dd fs' H' G'.drop (s.weak (fun _ z => z) fun x hx => List.mem_append_right _ hx)
      | ok h env3 =>
        rw [e3] at po2
        intro fs3 H3 G3 s3
        have s23 := s2.trans s3
        have r3 : Rep C H3 d v fp := r1.keep (i1.keep s23 dj) s23.m
        simp only [R.of] at po2
        cases e4 : pSl d l h with
        | none => rw [e4] at po2; exact po2.elim
        | some r =>
          rw [e4] at po2
          have s3' := s3.weak (fun _ z => z) (tf' := tf) fun x hx => List.mem_append_right _ hx
          exact sl_ok hC G3.fr r3 e4 (comes_post (own := own) G3 s3' po2)

/-! ### a component of an owned tuple or list -/
def cTake (ca cb : CE) : CE := fun env => (ca env).bind fun d env => (cb env).bind fun y env => match d, y with
  | .tup ds, .int i => R.of (atI ds i) env
  | .lst .m ds, .int i => R.of (atI ds i) env
  | _, _ => .err
theorem so_take {k : Nat} (hr : Room k X.A) (ha : SO X W M1 a ca) (hb : SB X W M2 R2 b cb) (hs : PlainIx b) : SO X W (M1 ++ M2) (.Subscript a b pos) (cTake ca cb) := by
  obtain ⟨t, p, q⟩ := ha.go
  obtain ⟨t2, p2', q2⟩ := hb.go
  refine ⟨tOp (fun x y H Q => rIx X.K x y H Q ∨ rIxD x y H Q) t t2, pe_ix (ix_seq.or (ix_dict hr)) p p2' hs, fun C fs env σ H tf Q hC G po => ?_⟩
  show t σ H fun x H1 => t2 σ H1 fun y H2 => rIx X.K x y H2 Q ∨ rIxD x y H2 Q
  refine q C fs env σ H tf _ hC G ?_
  unfold cTake at po
  cases e1 : ca env with
  | err => rw [e1] at po; exact po
  | ex x env' => rw [e1] at po; exact fun cv dd fs' H' G' s => po cv dd fs' H' G' (s.weak mem_l fun _ z => z)
  | ok d env1 =>
    rw [e1] at po
    intro v fs1 H1 fp G1 s1 r1
    have po1 := PostO.step s1 po
    refine q2 C fs1 env1 σ H1 (fp ++ tf) _ hC G1 ?_
    simp only [R.bind] at po1
    cases e2 : cb env1 with
    | err => rw [e2] at po1; exact po1
    | ex x env' => rw [e2] at po1; exact fun cv dd fs' H' G' s => po1 cv dd fs' H' G'.drop (s.weak (fun _ z => z) fun x hx => List.mem_append_right _ hx)
    | ok y env2 =>
      rw [e2] at po1
      intro w fs2 H2 f2 own G2 s2 r2 _
      have s2' := s2.weak (fun _ z => z) (tf' := tf) fun x hx => List.mem_append_right _ hx
      have r1' : Rep C H2 d v fp := r1.keep (fun a ha => s2.t a (List.mem_append_left _ ha)) s2.m
      have G2 := G2.drop
      simp only at po1
      have fin : ∀ {x : D} {u : V} {g1 f g2 : List Addr} (e : fp = g1 ++ f ++ g2), Rep C H2 x u f → PostO W C M2 tf fs1 env1 σ H1 Q (.ok x env2) → Q u H2 := fun {x u g1 f g2} e ru po => by
        refine po u fs2 H2 f (G2.sub ?_) s2' ru
        rw [e]
        refine List.Sublist.append ?_ (List.Sublist.refl _)
        exact (List.sublist_append_right g1 f).trans (List.sublist_append_left _ _)
      cases d with
      | tup ds =>
        cases y with
        | int i =>
          simp only [R.of] at po1
          cases e3 : atI ds i with
          | none => rw [e3] at po1; exact po1.elim
          | some x =>
            rw [e3] at po1
            obtain ⟨ad, vs, rfl, n, rs⟩ := r1'
            obtain ⟨rfl, _⟩ := r2
            obtain ⟨u, k1, f, k2, h1, h2, h3⟩ := atI_reps rs e3
            exact .inl (.inr (.inl ⟨ad, vs, i, u, rfl, rfl, by rwa [hC.1] at n, h1, fin h3 h2 po1⟩))
        | _ => exact po1.elim
      | lst g ds =>
        cases g with
        | m =>
          cases y with
          | int i =>
            simp only [R.of] at po1
            cases e3 : atI ds i with
            | none => rw [e3] at po1; exact po1.elim
            | some x =>
              rw [e3] at po1
              obtain ⟨ad, vs, g1, g2, rfl, n, rs, _, ef⟩ := r1'
              obtain ⟨rfl, _⟩ := r2
              obtain ⟨u, k1, f, k2, h1, h2, h3⟩ := atI_reps rs e3
              refine .inl (.inl ⟨ad, vs, i, u, rfl, rfl, by have := (Nd.rd n G2.fr).sql; rwa [hC.1] at this, h1, fin (g1 := g1 ++ k1) (g2 := k2) (by rw [ef, h3]; simp) h2 po1⟩)
          | _ => exact po1.elim
        | _ => exact po1.elim
      | _ => exact po1.elim
end
end VS

set_option maxRecDepth 100000
namespace VS
open PySem L2 SeqAt RZ
section
variable {X : Cx} {W : WX} {M M1 M2 M3 M4 V1 V2 V3 Rs R1 R2 R3 : List Nat} {e a b c tg : Expr} {es ifs : List Expr} {ca cb cc : CE} {cs src : CA} {ct : CT} {pos p : Pos} {g : D → Env → Option Env}
variable {pins : List (Addr × Obj)} {σ σ' : St} {H H1 H2 H' : Hp} {s : Shared} {C C' : Ctx}
theorem pi_or {t1 t2 : TI} (h1 : PI X tg e t1) (h2 : PI X tg e t2) : PI X tg e (fun σ H R => t1 σ H R ∨ t2 σ H R) :=
  ⟨fun pins s σ H R I h => h.elim (h1.run pins s σ H R I) (h2.run pins s σ H R I)⟩
theorem src_list {g : Fl} {ds : List D} {v : V} {fp : List Addr} (hC : C.At X) (hF : Fr C H1) (r : Rep C H1 (.lst g ds) v fp) (hi : imms ds = true) : ∃ a vs, v = .ref a ∧ SqL X.K H1 a vs ∧ Reps C H1 ds vs [] ∧
    (∀ H2, Fr C H2 ∧ Mono H1 H2 ∧ (∀ b ∈ fp, H2 b = H1 b) → SqL X.K H2 a vs ∧ Reps C H2 ds vs []) := by
  obtain ⟨a, vs, f1, f2, rfl, n, rs, hz, ef⟩ := r
  have sq : SqL X.K H1 a vs := by have := (Nd.rd n hF).sql; rwa [hC.1] at this
  have z := rs.imm hi
  subst z
  refine ⟨a, vs, rfl, sq, rs, fun H2 ⟨hf2, hm, hk⟩ => ⟨?_, rs.keep (fun b hb => nomatch hb) hm⟩⟩
  have n2 : Nd C H2 g a (.lst vs) f1 := Nd.keep n (fun b hb => hk b (by rw [ef]; simp [hb])) hm
  have := (Nd.rd n2 hf2).sql; rwa [hC.1] at this
theorem src_tup {ds : List D} {v : V} {fp : List Addr} (hC : C.At X) (r : Rep C H1 (.tup ds) v fp) (hi : imms ds = true) : ∃ a vs, v = .ref a ∧ SqT X.K H1 a vs ∧ Reps C H1 ds vs [] ∧
    (∀ H2, Fr C H2 ∧ Mono H1 H2 ∧ (∀ b ∈ fp, H2 b = H1 b) → SqT X.K H2 a vs ∧ Reps C H2 ds vs []) := by
  obtain ⟨a, vs, rfl, n, rs⟩ := r
  have sq : SqT X.K H1 a vs := by rwa [hC.1] at n
  have z := rs.imm hi
  subst z
  exact ⟨a, vs, rfl, sq, rs, fun H2 ⟨hf2, hm, hk⟩ => ⟨sqt_keep sq hm, rs.keep (fun b hb => nomatch hb) hm⟩⟩
/-- a list or a tuple -/
def iAnyD (c : CE) : CA := fun env => (c env).bind fun d env => match d with
  | .lst _ ds => if imms ds then .ok ds env else .err
  | .tup ds => if imms ds then .ok ds env else .err
  | _ => .err
theorem si_any (h : SB X W M Rs e ca) : SI X W M Rs tg e (iAnyD ca) := by
  obtain ⟨t, p, q⟩ := (si_list (tg := tg) h).go
  obtain ⟨t2, p2, q2⟩ := (si_tup (tg := tg) h).go
  refine ⟨_, pi_or p p2, fun C fs env σ H tf Q hC G po => ?_⟩
  unfold iAnyD at po
  cases e1 : ca env with
  | err => rw [e1] at po; exact po.elim
  | ex x env' =>
    refine .inl (q C fs env σ H tf Q hC G ?_)
    unfold iSeq
    rw [e1] at po ⊢
    exact po
  | ok d env1 =>
    rw [e1] at po
    cases d with
    | lst g ds =>
      refine .inl (q C fs env σ H tf Q hC G ?_)
      unfold iSeq
      rw [e1]
      exact po
    | tup ds =>
      refine .inr (q2 C fs env σ H tf Q hC G ?_)
      unfold iTupD
      rw [e1]
      exact po
    | _ => exact po.elim
/-- numbered -/
def numD : Nat → List D → List D
  | _, [] => []
  | i, d :: ds => .tup [.int (i : Nat), d] :: numD (i + 1) ds
theorem numD_get : ∀ {ds : List D} {k i : Nat}, (numD k ds)[i]? = (ds[i]?).map fun d => .tup [.int ((k + i : Nat) : Int), d]
  | [], k, i => by simp [numD]
  | d :: ds, k, 0 => by simp [numD]
  | d :: ds, k, i + 1 => by
    simp only [numD, List.getElem?_cons_succ]
    rw [numD_get]
    congr 1
    funext x
    have : k + 1 + i = k + (i + 1) := by omega
    rw [this]
theorem numD_len : ∀ {ds : List D} {k : Nat}, (numD k ds).length = ds.length
  | [], k => rfl
  | d :: ds, k => by simp [numD, numD_len]
def iEnumD (c : CE) : CA := fun env => (c env).bind fun d env => match d with
  | .lst _ ds => if imms ds then .ok (numD 0 ds) env else .err
  | _ => .err
theorem si_enum {elts : List Expr} {kk : Nat} {tpos p2 : Pos} (hg : Gl X "enumerate") (hm : X.mg "enumerate" = none) (h : SB X W M Rs e ca) (hs : starEach [e] X.env = [(false, eval e X.env)] := by rfl) : SI X W M Rs (.Tuple elts kk tpos) (.Call (.Name "enumerate" p2) [e] [] pos) (iEnumD ca) := by
  obtain ⟨t, p, q⟩ := h.go
  refine ⟨iEnum X.K (tCons t tNil), pi_enum hg hm (pa_cons p pa_nil hs) hs, fun C fs env σ H tf Q hC G po => ?_⟩
  show t σ H fun x H1 => _
  refine q C fs env σ H tf _ hC G ?_
  unfold iEnumD at po
  cases e1 : ca env with
  | err => rw [e1] at po; exact po
  | ex x env' => rw [e1] at po; exact po
  | ok d env1 =>
    rw [e1] at po
    intro v fs1 H1 fp own G1 s1 r1 i1
    cases d with
    | lst g ds =>
      have po' : PostI W C M Rs tf fs env σ H Q (if imms ds then .ok (numD 0 ds) env1 else .err) := po
      by_cases hi : imms ds = true
      · rw [if_pos hi] at po'
        obtain ⟨a, vs, rfl, sq, rs, kp⟩ := src_list hC G1.fr r1 hi
        refine ⟨a, vs, rfl, sq, po' _ fs1 H1 fp own G1 s1 ⟨?_⟩ i1⟩
        rw [numD_len, reps_length rs]
        refine Walk.mono (walk_enum (K := X.K) (a := a) (xs := vs)) (fun H2 h2 => (kp H2 h2).1) fun i H2 x H3 hi2 h2 ⟨T, y, z, e1, e2, e3, e4, e5⟩ => ?_
        subst e1 e3
        cases e4
        obtain ⟨d, h1, h3⟩ := reps_imm_get (kp H2 h2).2 hi e5
        have le := Le.new (o := .tup [.int (i : Nat), z]) e2
        refine ⟨le, .tup [.int (i : Nat), d], by rw [numD_get, h1]; simp, T, _, rfl, SqT.of upd_same, .int (i : Nat), [z], [], [], rfl, ⟨rfl, rfl⟩, ⟨z, [], [], [], rfl, h3.le le, ⟨rfl, rfl⟩, rfl⟩, rfl⟩
      · rw [if_neg hi] at po'; exact po'.elim
    | _ => exact po.elim
/-- pairs -/
def zipD : List D → List D → List D
  | x :: xs, y :: ys => .tup [x, y] :: zipD xs ys
  | _, _ => []
theorem zipD_get : ∀ {xs ys : List D} {i : Nat} {x y : D}, xs[i]? = some x → ys[i]? = some y → (zipD xs ys)[i]? = some (.tup [x, y])
  | [], ys, i, x, y, h, _ => by simp at h
  | x0 :: xs, [], i, x, y, _, h => by simp at h
  | x0 :: xs, y0 :: ys, 0, x, y, h1, h2 => by simp at h1 h2; subst h1 h2; simp [zipD]
  | x0 :: xs, y0 :: ys, i + 1, x, y, h1, h2 => by simp only [zipD, List.getElem?_cons_succ]; exact zipD_get (by simpa using h1) (by simpa using h2)
theorem zipD_len : ∀ {xs ys : List D}, (zipD xs ys).length = min xs.length ys.length
  | [], ys => by simp [zipD]
  | x :: xs, [] => by simp [zipD]
  | x :: xs, y :: ys => by simp only [zipD, List.length_cons, zipD_len]; omega
def zipP : List D → Option (List D)
  | [.lst _ xs, .lst _ ys] => if imms xs && imms ys then some (zipD xs ys) else none
  | [.tup xs, .tup ys] => if imms xs && imms ys then some (zipD xs ys) else none
  | _ => none
def iZipD (cs : CA) : CA := fun env => (cs env).bind fun ds env => R.of (zipP ds) env
theorem walk_zipT' {K : PySem.W.Frag} {a b : Addr} {xs ys : List V} {n : Nat} (hn : n = min xs.length ys.length) : Walk (ItzT K a b) n (fun H => SqT K H a xs ∧ SqT K H b ys) (YPair (fun i => xs[i]?) (fun i => ys[i]?)) := by
  subst hn
  refine ⟨fun i _ hi q => ?_, fun _ q => ⟨xs, ys, q.1, q.2, by omega⟩, fun i H v H' _ q y => ?_⟩
  · have h1 : i < xs.length := by omega
    have h2 : i < ys.length := by omega
    exact ⟨xs, ys, xs[i], ys[i], q.1, q.2, by simp [h1], by simp [h2]⟩
  · obtain ⟨T, x, z, h1, h2, h3, h4, h5⟩ := y
    exact ⟨T, x, z, h1, h2, h3, h4 xs q.1, h5 ys q.2⟩
theorem pair_src {xs ys : List D} {vs ws : List V} {i : Nat} {x : V} {H2 H3 : Hp} (r1 : Reps C H2 xs vs []) (r2 : Reps C H2 ys ws []) (h1 : imms xs = true) (h2 : imms ys = true) (y : YPair (fun i => vs[i]?) (fun i => ws[i]?) i H2 x H3) :
    Le H2 H3 ∧ ∃ d, (zipD xs ys)[i]? = some d ∧ Rep C H3 d x [] := by
  obtain ⟨T, y, z, e1, e2, e3, e4, e5⟩ := y
  subst e1 e3
  obtain ⟨d, k1, k2⟩ := reps_imm_get r1 h1 e4
  obtain ⟨d', k3, k4⟩ := reps_imm_get r2 h2 e5
  have le := Le.new (o := .tup [y, z]) e2
  exact ⟨le, .tup [d, d'], zipD_get k1 k3, T, _, rfl, SqT.of upd_same, y, [z], [], [], rfl, k2.le le, ⟨z, [], [], [], rfl, k4.le le, ⟨rfl, rfl⟩, rfl⟩, rfl⟩
theorem si_zip {e2 : Expr} {elts : List Expr} {kk : Nat} {tpos p2 : Pos} (hg : Gl X "zip") (hm : X.mg "zip" = none) (h : SA X W M Rs [e, e2] cs) (hs : starEach [e, e2] X.env = (false, eval e X.env) :: starEach [e2] X.env := by rfl) (hpl : (backTo pos (starEach [e2] X.env)).any (·.1) = false := by rfl) :
    SI X W M Rs (.Tuple elts kk tpos) (.Call (.Name "zip" p2) [e, e2] [] pos) (iZipD cs) := by
  obtain ⟨t, p, q⟩ := h.go
  refine ⟨iZipA X.K t, pi_zipA hg hm p hs hpl, fun C fs env σ H tf Q hC G po => ?_⟩
  show t σ H fun vs H1 => _
  refine q C fs env σ H tf _ hC G ?_
  unfold iZipD at po
  cases e1 : cs env with
  | err => rw [e1] at po; exact po
  | ex x env' => rw [e1] at po; exact po
  | ok ds env1 =>
    rw [e1] at po
    intro vs fs1 H1 fp own G1 s1 r1 i1
    have po' : PostI W C M Rs tf fs env σ H Q (R.of (zipP ds) env1) := po
    cases ez : zipP ds with
    | none => rw [ez] at po'; exact po'.elim
    | some zs =>
    rw [ez] at po'
    unfold zipP at ez
    split at ez
    · rename_i g xs g' ys
      split at ez <;> cases ez
      rename_i hi
      simp only [Bool.and_eq_true] at hi
      obtain ⟨v, w, f1, f2, rfl, ra, rb, ef⟩ := reps2 r1
      obtain ⟨a, vs, rfl, sq, rs, kp⟩ := src_list hC G1.fr ra hi.1
      obtain ⟨b, ws, rfl, sq', rs', kp'⟩ := src_list hC G1.fr rb hi.2
      refine ⟨a, b, vs, ws, rfl, .inl ⟨sq, sq', po' _ fs1 H1 fp own G1 s1 ⟨?_⟩ i1⟩⟩
      rw [zipD_len, reps_length rs, reps_length rs']
      have hsub : ∀ {H2 : Hp}, (Fr C H2 ∧ Mono H1 H2 ∧ ∀ c ∈ fp, H2 c = H1 c) → (Fr C H2 ∧ Mono H1 H2 ∧ ∀ c ∈ f1, H2 c = H1 c) ∧ (Fr C H2 ∧ Mono H1 H2 ∧ ∀ c ∈ f2, H2 c = H1 c) := fun {H2} ⟨x, y, z⟩ =>
        ⟨⟨x, y, fun c hc => z c (by rw [ef]; simp [hc])⟩, ⟨x, y, fun c hc => z c (by rw [ef]; simp [hc])⟩⟩
      exact Walk.mono (walk_zip (K := X.K) rfl) (fun H2 h2 => ⟨(kp H2 (hsub h2).1).1, (kp' H2 (hsub h2).2).1⟩) fun i H2 x H3 hi2 h2 y => pair_src (kp H2 (hsub h2).1).2 (kp' H2 (hsub h2).2).2 hi.1 hi.2 y
    · rename_i xs ys
      split at ez <;> cases ez
      rename_i hi
      simp only [Bool.and_eq_true] at hi
      obtain ⟨v, w, f1, f2, rfl, ra, rb, ef⟩ := reps2 r1
      obtain ⟨a, vs, rfl, sq, rs, kp⟩ := src_tup hC ra hi.1
      obtain ⟨b, ws, rfl, sq', rs', kp'⟩ := src_tup hC rb hi.2
      refine ⟨a, b, vs, ws, rfl, .inr ⟨sq, sq', po' _ fs1 H1 fp own G1 s1 ⟨?_⟩ i1⟩⟩
      rw [zipD_len, reps_length rs, reps_length rs']
      have hsub : ∀ {H2 : Hp}, (Fr C H2 ∧ Mono H1 H2 ∧ ∀ c ∈ fp, H2 c = H1 c) → (Fr C H2 ∧ Mono H1 H2 ∧ ∀ c ∈ f1, H2 c = H1 c) ∧ (Fr C H2 ∧ Mono H1 H2 ∧ ∀ c ∈ f2, H2 c = H1 c) := fun {H2} ⟨x, y, z⟩ =>
        ⟨⟨x, y, fun c hc => z c (by rw [ef]; simp [hc])⟩, ⟨x, y, fun c hc => z c (by rw [ef]; simp [hc])⟩⟩
      exact Walk.mono (walk_zipT' (K := X.K) rfl) (fun H2 h2 => ⟨(kp H2 (hsub h2).1).1, (kp' H2 (hsub h2).2).1⟩) fun i H2 x H3 hi2 h2 y => pair_src (kp H2 (hsub h2).1).2 (kp' H2 (hsub h2).2).2 hi.1 hi.2 y
    · cases ez
end
end VS

set_option maxRecDepth 100000
namespace VS
open PySem L2 SeqAt PySem.Spec PyProof.Rows HT
section
variable {prog : Program} {w : World} {A : Around} {E : Value → Shared → Prop} {s : Shared}
theorem sliceApplied_st {sl : Addr} {vl vu vs : Value} {n : Nat} {k : Int} {Q : Int × Int × Nat → Shared → Prop} (hs : s.heap.IsSliceOf sl vl vu vs) (pl : IsPart vl none) (pu : IsPart vu none) (ps : IsPart vs (some k)) (hk : (k == 0) = false)
    (h : Q ((Builtin.Slice.sliceAdjust none none k (n : Int)).1, k, Builtin.Slice.slicePlaces (Builtin.Slice.sliceAdjust none none k (n : Int)).1 (Builtin.Slice.sliceAdjust none none k (n : Int)).2 k) s) : wpAny (model prog w) A (Builtin.Slice.sliceApplied (.ref sl) (pure (n : Int))) Q E s := by
  obtain ⟨os, hos, hcs, hds⟩ := id hs
  unfold Builtin.Slice.sliceApplied Builtin.Slice.sliceFields
  refine wpAny_bind (wpAny_bind (wpAny_field hos hds (x := vl) rfl (wpAny_bind (wpAny_field hos hds (x := vu) rfl (wpAny_bind (wpAny_field hos hds (x := vs) rfl (wpAny_pure ?_)))))))
  refine wpAny_bind (slicePart_ ps ?_)
  show wpAny _ _ (if (k == 0) = true then _ else _) _ _ s
  rw [if_neg (by rw [hk]; decide)]
  refine wpAny_bind (slicePart_ pl (wpAny_bind (slicePart_ pu (wpAny_bind (wpAny_pure ?_)))))
  exact wpAny_pure h
theorem adj_one (n : Nat) : Builtin.Slice.sliceAdjust none none 1 (n : Int) = (0, (n : Int)) := rfl
theorem adj_neg (n : Nat) : Builtin.Slice.sliceAdjust none none (-1) (n : Int) = ((n : Int) - 1, -1) := rfl
theorem places_one (n : Nat) : Builtin.Slice.slicePlaces 0 (n : Int) 1 = n := by
  unfold Builtin.Slice.slicePlaces
  rw [if_pos (by decide)]
  split <;> omega
theorem places_neg (n : Nat) : Builtin.Slice.slicePlaces ((n : Int) - 1) (-1) (-1) = n := by
  unfold Builtin.Slice.slicePlaces
  rw [if_neg (by decide), show (-(-1 : Int)) = 1 from rfl]
  split <;> omega
theorem fm_congr {α β : Type} {f g : α → Option β} : ∀ {l : List α}, (∀ x ∈ l, f x = g x) → l.filterMap f = l.filterMap g
  | [], _ => rfl
  | a :: l, h => by rw [List.filterMap_cons, List.filterMap_cons, h a (by simp), fm_congr fun x hx => h x (by simp [hx])]
theorem pick_neg (xs : List Value) : ((List.range xs.length).filterMap fun (m : Nat) => xs.toArray[(((xs.length : Int) - 1) + (m : Int) * -1).toNat]?).toArray = xs.reverse.toArray := by
  have e := pick_gen xs.reverse.toArray 0 xs.length
  simp only [List.toList_toArray, List.drop_zero] at e
  rw [show xs.reverse.take xs.length = xs.reverse from by rw [← List.length_reverse, List.take_length]] at e
  rw [← e]
  congr 1
  refine fm_congr fun m hm => ?_
  have hm := List.mem_range.mp hm
  have e1 : (((xs.length : Int) - 1) + (m : Int) * -1).toNat = xs.length - 1 - m := by omega
  have e2 : (((0 : Nat) : Int) + (m : Int) * 1).toNat = m := by omega
  rw [e1, e2]
  simp only [List.getElem?_toArray]
  rw [List.getElem?_reverse hm]
theorem getItem_tuple_st {t sl : Addr} {its : List Value} {vl vu vs : Value} {k : Int} {Q : Value → Shared → Prop} (ht : IsTup s.heap t its.toArray) (hs : s.heap.IsSliceOf sl vl vu vs) (pl : IsPart vl none) (pu : IsPart vu none) (ps : IsPart vs (some k))
    (h1 : k = 1 → Q (.ref t) s) (h2 : k = -1 → Q (.ref s.heap.objs.size) { s with heap := s.heap.push { cls := .type "tuple", data := .seq its.reverse.toArray } }) (hk : k = 1 ∨ k = -1) (hsz : its.length ≤ sizeLine) : wpAny (model prog w) A (getItem (.ref t) (.ref sl)) Q E s := by
  obtain ⟨os, hos, hcs, hds⟩ := id hs
  have hTs : s.TypeIs (.ref sl) "slice" := ⟨os, hos, hcs⟩
  unfold getItem
  try with_reducible refine wpAny_holding ?_
  first | refine wpAny_bind (wpAny_pure ?_) | skip
  refine wpAny_bind (wpAny_sequenceKey ht.typeIs (by decide) ?_)
  refine wpAny_bind (wpAny_callSpecial?_slot (name := Str.ofString "__getitem__") ht.typeIs PyProof.Rows.slot_tuple_getitem
    (wpAny_call_entry PyProof.Rows.slot_tuple_getitem ht.typeIs entry_tuple_getitem ?_ (args_tuple_getitem _ _)))
  show wpAny _ _ (Builtin.Tuple.tupleItemsOf (.ref t) >>= _) _ _ s
  refine wpAny_bind (tupleItemsOf_ ht ?_)
  refine wpAny_bind (wpAny_typeOf hTs ?_)
  rw [if_pos (by decide)]
  have hz : its.toArray.size = its.length := List.size_toArray
  rcases hk with hk | hk
  · subst hk
    refine wpAny_bind (sliceApplied_st hs pl pu ps rfl ?_)
    rw [adj_one]
    show wpAny _ _ (if (((0 : Int) == 0 && (1 : Int) == 1 && Builtin.Slice.slicePlaces 0 (its.toArray.size : Int) 1 == its.toArray.size) = true) then _ else _) _ _ s
    rw [places_one, if_pos (by simp)]
    refine wpAny_bind ?_
    show wpAny _ _ (typeOf (.ref t) >>= fun T => pure (T == .type "tuple")) _ _ s
    refine wpAny_bind (wpAny_typeOf ht.typeIs (wpAny_pure ?_))
    first
      | rw [if_pos (by decide)]
      | simp only [beq_self_eq_true, if_true]
    first
      | exact wpAny_bind (wpAny_rule (wpAny_pure ⟨_, rfl, wpAny_pure (h1 rfl)⟩))
      | exact wpAny_bind (wpAny_bind (wpAny_rule (wpAny_pure (wpAny_pure ⟨_, rfl, wpAny_pure (h1 rfl)⟩))))
      | exact wpAny_bind (wpAny_rule (wpAny_bind (wpAny_pure (wpAny_pure ⟨_, rfl, wpAny_pure (h1 rfl)⟩))))
  · subst hk
    refine wpAny_bind (sliceApplied_st hs pl pu ps rfl ?_)
    rw [adj_neg]
    show wpAny _ _ (if ((((its.toArray.size : Int) - 1) == 0 && (-1 : Int) == 1 && Builtin.Slice.slicePlaces ((its.toArray.size : Int) - 1) (-1) (-1) == its.toArray.size) = true) then _ else _) _ _ s
    rw [places_neg, if_neg (by simp), hz, pick_neg]
    have htake : sizeOk (.seq its.reverse.toArray) := by
      show its.reverse.toArray.size ≤ sizeLine
      rw [List.size_toArray, List.length_reverse]; exact hsz
    first
      | exact wpAny_bind (m := Builtin.Tuple.tupleExact _) (wpAny_newObj_type (wpAny_pure ⟨_, rfl, wpAny_pure (h2 rfl)⟩) htake)
      | exact wpAny_bind (m := Builtin.Tuple.tupleExact _) (wpAny_newObj_type (wpAny_bind (wpAny_pure (wpAny_pure ⟨_, rfl, wpAny_pure (h2 rfl)⟩))) htake)
      | exact wpAny_bind (wpAny_bind (m := Builtin.Tuple.tupleExact _) (wpAny_newObj_type (wpAny_pure (wpAny_pure ⟨_, rfl, wpAny_pure (h2 rfl)⟩)) htake))
      | exact wpAny_bind (wpAny_bind (m := Builtin.Tuple.tupleExact _) (wpAny_newObj_type (wpAny_pure ⟨_, rfl, wpAny_pure (h2 rfl)⟩) htake))
end
section
variable {X : Cx} {W : WX} {M M1 M2 M3 M4 V1 V2 V3 Rs R1 R2 R3 : List Nat} {e a b c tg : Expr} {es ifs : List Expr} {ca cb cc : CE} {cs src : CA} {ct : CT} {pos p : Pos} {g : D → Env → Option Env}
variable {pins : List (Addr × Obj)} {σ σ' : L2.St} {H H1 H2 H' : Hp} {s : Shared} {C C' : Ctx}
/-- x[::k], k one or minus one -/
def rStep (K : PySem.W.Frag) : V → Int → Hp → VK → Prop := fun x k H Q => (k = 1 ∨ k = -1) ∧ ∃ a vs, x = .ref a ∧
  ((SqT K H a vs ∧ (k = 1 → Q (.ref a) H) ∧ (k = -1 → ∀ p, H p = none → Q (.ref p) (upd H p (.tup vs.reverse)))) ∨ (SqL K H a vs ∧ k = -1 ∧ ∀ p, H p = none → Q (.ref p) (upd H p (.lst vs.reverse))))
theorem pe_step {te tk : TE} {p3 : Pos} (he : PE X e te) (hk : PE X a tk) : PE X (.Subscript e (.Slice none none (some a) p3) pos) (fun σ H Q => te σ H fun x H1 => tk σ H1 fun y H2 => ∃ k, y = .int k ∧ rStep X.K x k H2 Q) := by
  refine ⟨fun pins s σ H Q I h => ?_⟩
  refine Subscript_ (thn (he.run pins s σ H _ I h) fun v s1 ⟨x, H1, I1, r1, q1⟩ => ?_)
  refine wpAny_Slice (thn (po_none.run pins s1 σ H1 (fun o H2 => o = none ∧ H2 = H1) I1 ⟨rfl, rfl⟩) fun vl s2 ⟨l, H2, I2, pl, el, e2⟩ => ?_)
  subst el e2
  refine thn (po_none.run pins s2 σ H2 (fun o H3 => o = none ∧ H3 = H2) I2 ⟨rfl, rfl⟩) fun vu s3 ⟨u, H3, I3, pu, eu, e3⟩ => ?_
  subst eu e3
  rw [evalPart_some]
  refine thn (hk.run pins s3 σ H3 _ I3 q1) fun vs s4 ⟨y, H4, I4, ry, k, ey, hq⟩ => ?_
  subst ey
  obtain ⟨tk', rfl⟩ := ry
  have ps : IsPart (.int k tk') (some k) := .int k tk'
  generalize Value.int k tk' = vs at ps
  obtain ⟨hk1, ad, ws, ex, hq⟩ := hq
  subst ex
  cases r1
  have I5 : Inv X pins σ H4 { s4 with heap := s4.heap.push { cls := .type "slice", data := .fields #[vl, vu, vs] } } := I4.kept (t' := s4.toks) fun b ob q => Heap.get?_push_of_some _ q
  show wpAny (model X.prog X.w) X.A (subscriptTail e (.Slice none none (some a) p3) (.ref ad) (.ref s4.heap.objs.size)) (EP X pins σ Q) X.xe { s4 with heap := s4.heap.push { cls := .type "slice", data := .fields #[vl, vu, vs] } }
  rcases hq with ⟨ht, q1, q2⟩ | ⟨hl, ek, q2⟩
  · obtain ⟨its, r, pt, hz⟩ := I5.tuple ht
    have hlen := r.length
    refine tail_any (ops := [.ref ad, .ref s4.heap.objs.size]) pt.typeIs (PyProof.Rows.slot_tuple_getitem.lookup) ?_ (by with_unfolding_all rfl)
    refine getItem_tuple_st pt (Heap.IsSliceOf.new _ vl vu vs) pl pu ps (fun e1 => ⟨.ref ad, H4, I5, rfl, q1 e1⟩) (fun e1 => ?_) hk1 (by omega)
    refine ⟨.ref _, _, I5.laid (t' := s4.toks) (o := .tup ws.reverse) (fun b ob q => Heap.get?_push_of_some _ q) (Nat.le_refl _) ?_, rfl, q2 e1 _ (I5.hok.fresh (Nat.le_refl _))⟩
    exact ⟨by rw [List.length_reverse]; exact hz, _, r.reverse, IsTup.new _ _⟩
  · subst ek
    obtain ⟨its, r, ht, hz⟩ := I5.list hl
    have hlen := r.length
    refine tail_any (ops := [.ref ad, .ref s4.heap.objs.size]) ht.isList.typeIs (PySem.slot_list_getitem.lookup) ?_ (by with_unfolding_all rfl)
    refine wpAny_getItem_list_slice ht.isList (Heap.IsSliceOf.new _ vl vu vs) pl pu ps (by decide) ?_ (by rw [List.size_toArray]; omega)
    rw [PySem.W.krv_pick]
    refine ⟨.ref _, _, I5.laid (t' := s4.toks) (o := .lst ws.reverse) (fun b ob q => Heap.get?_push_of_some _ q) (Nat.le_refl _) ?_, rfl, q2 _ (I5.hok.fresh (Nat.le_refl _))⟩
    exact ⟨by rw [List.length_reverse]; exact hz, _, 0, r.reverse, Heap.get?_push_size _ rfl⟩
end
end VS

set_option maxRecDepth 100000
namespace VS
open PySem L2 SeqAt
section
variable {X : Cx} {W : WX} {M M1 M2 M3 M4 V1 V2 V3 Rs R1 R2 R3 : List Nat} {e a b c tg : Expr} {es ifs : List Expr} {ca cb cc : CE} {cs src : CA} {ct : CT} {pos p : Pos} {g : D → Env → Option Env}
variable {pins : List (Addr × Obj)} {σ σ' : L2.St} {H H1 H2 H' : Hp} {s : Shared} {C C' : Ctx}
/-! ### x[::k] -/
def pStep : D → D → Option D
  | .tup ds, .int k => if imms ds then (if k = 1 then some (.tup ds) else if k = -1 then some (.tup ds.reverse) else none) else none
  | .lst _ ds, .int k => if imms ds && decide (k = -1) then some (.lst .m ds.reverse) else none
  | _, _ => none
theorem imms_all : ∀ {ds : List D}, imms ds = ds.all D.imm
  | [] => rfl
  | d :: ds => by rw [imms, List.all_cons, imms_all]
theorem imms_rev {ds : List D} (h : imms ds = true) : imms ds.reverse = true := by
  rw [imms_all] at h ⊢
  rw [List.all_reverse]; exact h
theorem reps_rev : ∀ {ds : List D} {vs : List V}, Reps C H ds vs [] → Reps C H ds.reverse vs.reverse []
  | [], vs, ⟨h1, h2⟩ => by subst h1; exact ⟨rfl, rfl⟩
  | d :: ds, vs, ⟨v, vs', f1, f2, e, r, rs, e2⟩ => by
    obtain ⟨z1, z2⟩ := List.append_eq_nil_iff.mp e2.symm
    subst e z1 z2
    rw [List.reverse_cons, List.reverse_cons]
    exact reps_append (f := []) (g := []) (reps_rev rs) ⟨v, [], [], [], rfl, r, ⟨rfl, rfl⟩, rfl⟩
theorem step_ok {dx dy d : D} {x y : V} {fx fy : List Addr} {Q : VK} (hC : C.At X) (hF : Fr C H) (r1 : Rep C H dx x fx) (r2 : Rep C H dy y fy) (e : pStep dx dy = some d) (k : Comes C H d Q) : ∃ n, y = .int n ∧ rStep X.K x n H Q := by
  unfold pStep at e
  split at e
  · rename_i ds n
    obtain ⟨rfl, _⟩ := r2
    obtain ⟨a, vs, rfl, q, rz⟩ := rep_tup hC r1
    split at e
    case isFalse => cases e
    rename_i hi
    have ez := rz.imm hi
    subst ez
    by_cases h1 : n = 1
    · subst h1
      cases e
      exact ⟨1, rfl, .inl rfl, a, vs, rfl, .inl ⟨q, fun _ => k.here ⟨a, vs, rfl, by rw [hC.1]; exact q, rz⟩, fun z => (by cases z)⟩⟩
    · rw [if_neg h1] at e
      by_cases h2 : n = -1
      · subst h2
        cases e
        exact ⟨-1, rfl, .inr rfl, a, vs, rfl, .inl ⟨q, fun z => (by cases z), fun _ p hp => k.tup (reps_rev rz) (imms_rev hi) hp⟩⟩
      · rw [if_neg h2] at e; cases e
  · rename_i g ds n
    obtain ⟨rfl, _⟩ := r2
    obtain ⟨a, vs, f, rfl, q, rz⟩ := rep_list hC hF r1
    split at e
    case isFalse => cases e
    rename_i hi
    cases e
    simp only [Bool.and_eq_true, decide_eq_true_eq] at hi
    obtain ⟨hi, rfl⟩ := hi
    have ez := rz.imm hi
    subst ez
    exact ⟨-1, rfl, .inr rfl, a, vs, rfl, .inr ⟨q, rfl, fun p hp => k.lst (reps_rev rz) (imms_rev hi) hp⟩⟩
  · cases e
theorem so_step {p3 : Pos} (ha : SB X W M1 R1 a ca) (hb : SB X W M2 R2 b cb) (hd : djB R1 M2 = true) : SO X W (M1 ++ M2) (.Subscript a (.Slice none none (some b) p3) pos) (c2 pStep ca cb) := by
  obtain ⟨ta, tb, pa, pb, q⟩ := two_go ha hb hd
  refine ⟨_, pe_step pa pb, fun C fs env σ H tf Q hC G po => q C fs env σ H tf _ hC G ?_⟩
  unfold c2 at po
  cases e1 : cTwo ca cb env with
  | err => rw [e1] at po; exact po
  | ex x env' => rw [e1] at po; exact po
  | ok d env' =>
    rw [e1] at po
    intro x y fs' H' f1 f2 own G' s r1 r2 i1 i2
    have po' : PostO W C (M1 ++ M2) tf fs env σ H Q (R.of (pStep d.1 d.2) env') := po
    cases e2 : pStep d.1 d.2 with
    | none => rw [e2] at po'; exact po'.elim
    | some z => rw [e2] at po'; exact step_ok hC G'.fr r1 r2 e2 (comes_post (own := own) G' s po')

/-! ### x.split(sep) -/
def pSplit : D → D → Option D
  | .str x, .str y => if (y.length == 0) = false ∧ x.length + 2 ≤ sizeLine then some (.lst .m ((Txt.split x y).map D.str)) else none
  | _, _ => none
def cSplit (ca cb : CE) : CE := fun env => (ca env).bind fun d env => match d with
  | .str x => (cb env).bind fun y env => R.of (pSplit (.str x) y) env
  | _ => .err
theorem so_split {o : Expr} {apos : Pos} (ha : SB X W M1 R1 o ca) (hb : SB X W M2 R2 e cb) (hs : starEach [e] X.env = [(false, eval e X.env)]) (hbase : attributeBase o "split" X.env (eval o X.env) = eval o X.env) (hline : (apos.endLine == pos.line) = true) :
    SO X W (M1 ++ M2) (.Call (.Attribute o "split" apos) [e] [] pos) (cSplit ca cb) := by
  obtain ⟨t, p, q⟩ := ha.go
  obtain ⟨t2, p2, q2⟩ := hb.go
  refine ⟨_, pe_splitAny p p2 hs hbase hline, fun C fs env σ H tf Q hC G po => ?_⟩
  show t σ H fun x H1 => (∃ a, x = .str a) ∧ t2 σ H1 fun y H2 => rSplitAny x [y] H2 Q
  refine q C fs env σ H tf _ hC G ?_
  unfold cSplit at po
  cases e1 : ca env with
  | err => rw [e1] at po; exact po
  | ex x env' => rw [e1] at po; exact fun cv dd fs' H' G' s => po cv dd fs' H' G' (s.weak mem_l fun _ z => z)
  | ok d env1 =>
    rw [e1] at po
    intro v fs1 H1 fp own G1 s1 r1 i1
    have po1 := PostO.step s1 po
    simp only [R.bind] at po1
    cases d with
    | str x =>
      obtain ⟨rfl, _⟩ := r1
      refine ⟨⟨x, rfl⟩, q2 C fs1 env1 σ H1 tf _ hC G1.drop ?_⟩
      simp only at po1
      cases e2 : cb env1 with
      | err => rw [e2] at po1; exact po1
      | ex x env' => rw [e2] at po1; exact po1
      | ok y env2 =>
        rw [e2] at po1
        intro w fs2 H2 f2 own2 G2 s2 r2 _
        simp only [R.of] at po1
        cases e3 : pSplit (.str x) y with
        | none => rw [e3] at po1; exact po1.elim
        | some z =>
          rw [e3] at po1
          unfold pSplit at e3
          split at e3
          · rename_i x' y' ex
            cases ex
            split at e3 <;> cases e3
            rename_i hz
            obtain ⟨rfl, _⟩ := r2
            refine .inl ⟨x, y', rfl, rfl, hz.1, hz.2, fun l hl => ?_⟩
            have k := comes_post (own := own2) G2 s2 po1
            exact k.lst (reps_strs _) (imms_strs _) hl
          · cases e3
    | _ => exact po1.elim

/-! ### dict(list of pairs) -/
def putP (kd : List Key × List D) (k : Key) (x : D) : List Key × List D := match idxK kd.1 k with
  | some j => (kd.1, kd.2.set j x)
  | none => (kd.1 ++ [k], kd.2 ++ [x])
def pairsD : List D → Option (List (Key × D))
  | [] => some []
  | .tup [k, x] :: ds => k.key.bind fun k => (pairsD ds).map fun r => (k, x) :: r
  | _ => none
def mkD (ps : List (Key × D)) : List Key × List D := ps.foldl (fun acc p => putP acc p.1 p.2) ([], [])
def pDictP : List D → Option D
  | [.lst _ ds] => if imms ds then (pairsD ds).map fun ps => .dct .m (mkD ps).1 (mkD ps).2 else none
  | _ => none
theorem put_rep {kvs : List (Key × V)} {kd : List Key × List D} {k : Key} {x : D} {v : V} (h1 : kvs.map (·.1) = kd.1) (hn : kd.1.Nodup) (hr : Reps C H kd.2 (kvs.map (·.2)) []) (rx : Rep C H x v []) :
    (putK kvs k v).map (·.1) = (putP kd k x).1 ∧ (putP kd k x).1.Nodup ∧ Reps C H (putP kd k x).2 ((putK kvs k v).map (·.2)) [] := by
  unfold putP
  cases q : idxK kd.1 k with
  | some j =>
    have q' := q
    rw [← h1] at q'
    have e1 := idx_nodup (v := v) (by rw [h1]; exact hn) q'
    have hj := (idx_val q').2
    have hjd : j < kd.2.length := by rw [reps_length hr]; simpa using hj
    obtain ⟨w', g1, fo, g2, k1, k2, k3, k4⟩ := reps_set hr (j := j) (x := kd.2[j]) (by simp [hjd])
    have z := List.append_eq_nil_iff.mp k3.symm
    have z2 := List.append_eq_nil_iff.mp z.1
    obtain ⟨⟨rfl, rfl⟩, rfl⟩ := And.intro z2 z.2
    refine ⟨?_, hn, ?_⟩
    · rw [e1, map_fst_set, h1]
      have := idx_at q'
      rw [List.getElem?_map] at this; exact this
    · rw [e1, map_snd_set]
      exact k4 H x v [] (.refl H) (fun _ z => nomatch z) rx
  | none =>
    have q' := q
    rw [← h1] at q'
    have e1 := putK_new v (idx_none q')
    refine ⟨by rw [e1, List.map_append, h1]; rfl, ?_, ?_⟩
    · refine List.nodup_append.mpr ⟨hn, by simp, fun x hx y hy e => ?_⟩
      simp at hy; subst hy; subst e
      exact idx_not q hx
    · rw [e1, List.map_append]
      exact reps_append (f := []) (g := []) hr ⟨v, [], [], [], rfl, rx, ⟨rfl, rfl⟩, rfl⟩
theorem pairs_rep (hC : C.At X) : ∀ {ds : List D} {ps : List (Key × D)} {vs : List V}, pairsD ds = some ps → imms ds = true → Reps C H ds vs [] → ∃ (as : List Addr) (kvs : List (Key × V)), vs = as.map V.ref ∧ Paired (fun p kv => SqT X.K H p [kV kv.1, kv.2]) as kvs ∧
    kvs.map (·.1) = ps.map (·.1) ∧ Reps C H (ps.map (·.2)) (kvs.map (·.2)) []
  | [], ps, vs, h, _, ⟨h1, _⟩ => by cases h; subst h1; exact ⟨[], [], rfl, .nil, rfl, rfl, rfl⟩
  | d :: ds, ps, vs, h, hi, ⟨v, vs', f1, f2, e, r, rs, e2⟩ => by
    obtain ⟨z1, z2⟩ := List.append_eq_nil_iff.mp e2.symm
    subst e z1 z2
    unfold pairsD at h
    split at h
    · rename_i he; cases he
    · rename_i k x ds' he
      cases he
      obtain ⟨ky, h1, h2⟩ := Option.bind_eq_some_iff.mp h
      obtain ⟨ps', h3, rfl⟩ := Option.map_eq_some_iff.mp h2
      rw [imms, Bool.and_eq_true] at hi
      obtain ⟨as, kvs, q1, q2, q3, q4⟩ := pairs_rep hC h3 hi.2 rs
      obtain ⟨ad, ws, rfl, n, rw⟩ := r
      obtain ⟨u1, us, g1, g2, ew, ru, rus, eg⟩ := rw
      obtain ⟨u2, us2, g3, g4, ew2, ru2, ⟨ew3, eg3⟩, eg2⟩ := rus
      obtain ⟨y1, y2⟩ := List.append_eq_nil_iff.mp eg.symm
      subst y1 y2
      obtain ⟨y3, y4⟩ := List.append_eq_nil_iff.mp eg2.symm
      subst y3 ew3 ew2 ew q1
      have ek := key_of h1 ru
      subst ek
      exact ⟨ad :: as, (ky, u2) :: kvs, rfl, .cons (by rw [← hC.1]; exact n) q2, by simp [q3], u2, _, [], [], rfl, ru2, q4, rfl⟩
    · cases h
theorem merge_rep : ∀ {ps : List (Key × D)} {kvs acc : List (Key × V)} {kd : List Key × List D}, kvs.map (·.1) = ps.map (·.1) → Reps C H (ps.map (·.2)) (kvs.map (·.2)) [] → acc.map (·.1) = kd.1 → kd.1.Nodup → Reps C H kd.2 (acc.map (·.2)) [] →
    (mergeK acc kvs).map (·.1) = (ps.foldl (fun acc p => putP acc p.1 p.2) kd).1 ∧ (ps.foldl (fun acc p => putP acc p.1 p.2) kd).1.Nodup ∧ Reps C H (ps.foldl (fun acc p => putP acc p.1 p.2) kd).2 ((mergeK acc kvs).map (·.2)) []
  | [], kvs, acc, kd, h1, h2, h3, h4, h5 => by
    cases kvs with
    | nil => exact ⟨h3, h4, h5⟩
    | cons a b => cases h1
  | (k, x) :: ps, kvs, acc, kd, h1, h2, h3, h4, h5 => by
    cases kvs with
    | nil => cases h1
    | cons kv kvs =>
      obtain ⟨k', v⟩ := kv
      simp only [List.map_cons, List.cons.injEq] at h1
      obtain ⟨hk, h1⟩ := h1
      subst hk
      obtain ⟨v', vs', f1, f2, e, r, rs, e2⟩ := h2
      cases e
      obtain ⟨z1, z2⟩ := List.append_eq_nil_iff.mp e2.symm
      subst z1 z2
      obtain ⟨p1, p2, p3⟩ := put_rep (k := k') (x := x) (v := v) h3 h4 h5 r
      exact merge_rep (ps := ps) (kvs := kvs) (acc := putK acc k' v) (kd := putP kd k' x) h1 rs p1 p2 p3
theorem od_dictP (hc : X.calm = true) : ODL X (.type "dict") pDictP := by
  refine ODL.of (call_dictP hc) fun xs H Q ⟨C, ds, fx, d, hC, hF, rs, e, k⟩ => ?_
  unfold pDictP at e
  split at e
  · rename_i g zs
    split at e
    case isFalse => cases e
    rename_i hi
    obtain ⟨ps, h1, rfl⟩ := Option.map_eq_some_iff.mp e
    obtain ⟨v, rfl, r⟩ := reps1 rs
    obtain ⟨a, vs, f, rfl, q, rz⟩ := rep_list hC hF r
    have ez := rz.imm hi
    subst ez
    obtain ⟨as, kvs, rfl, q2, q3, q4⟩ := pairs_rep hC h1 hi rz
    obtain ⟨m1, m2, m3⟩ := merge_rep (acc := []) (kd := ([], [])) q3 q4 rfl .nil ⟨rfl, rfl⟩
    refine ⟨a, as, kvs, rfl, q, q2, fun p hp => ?_⟩
    have le := Le.new (o := .dK (mergeK [] kvs)) hp
    exact k (.ref p) _ [p] le ⟨p, _, [p], [], rfl, ⟨upd_same, rfl⟩, ⟨m1, m2⟩, m3.le le, .inl rfl, rfl⟩ (by simp) fun a ha => by simp at ha; subst ha; exact hp
  · cases e
end
end VS

set_option maxRecDepth 100000
namespace VS
open PySem L2 SeqAt PySem.Spec PyProof.Rows
section
variable {X : Cx} {W : WX} {M M1 M2 M3 M4 V1 V2 V3 Rs R1 R2 R3 : List Nat} {e a b c tg o : Expr} {es ifs : List Expr} {ca cb cc : CE} {cs src : CA} {ct : CT} {pos p apos cpos : Pos} {cl : CL} {i : Nat}
theorem so_mutA (ho : SL X W i M1 o cl) (ha : SAO X W M2 (e :: es) cs)
    (hi : djB [i] M2 = true) (hbase : attributeBase o "append" X.env (eval o X.env) = eval o X.env)
    (hfew : ((backTo cpos (starEach (e :: es) X.env)).all (fun x => !x.1) && (backToKw cpos (keywordEach [] X.env)).all (fun x => x.1.isSome)
      && decide ((e :: es).length + ([] : List Keyword).length + (if ([] : List Keyword).isEmpty then 0 else 1) < 30)) = true)
    (hline : (apos.endLine == cpos.line) = true) (hs : starEach (e :: es) X.env = (false, eval e X.env) :: starEach es X.env) (hplain : (backTo cpos (starEach es X.env)).any (·.1) = false) :
    SO X W (M1 ++ (M2 ++ [i])) (.Call (.Attribute o "append" apos) (e :: es) [] cpos) (cMut i kdL mAppend cl cs) :=
  so_mut mu_append PySem.F.plainAttrs_list PySem.F.slot_list_append PySem.F.type_list_append mt_append ho ha hi hbase hfew hline hs hplain
/-- a def whose promise asks what cannot be -/
theorem fn_err {P : Program} {w : World} {K : PySem.W.Frag} {mg : Str → Option Value} {base : Heap} {x qual : Str} {st : Stmt} {f : Addr} {fd : FuncData} {N ps : List Str} {k : Nat} {io : List Bool} (F : Fun K x qual st f fd) (S : FnScope N ps (defScope st)) (hio : io.length = ps.length) :
    FnOk P w K mg base (L2.CX P w) (k + 1) f fd ps (spF K mg io (fun _ => .err)) := by
  refine F.okX S (fun vs H Q E h => by obtain ⟨Lk, ds, fps, hl, _⟩ := h; rw [hl, hio]) fun cdv A outer s H vs Q E hr h => ?_
  obtain ⟨Lk, ds, fps, hl, hA, nd, hk, po⟩ := h
  exact po.elim
end
end VS

set_option maxRecDepth 100000
namespace VS
open PySem L2 SeqAt
section
variable {α β : Type} (env : Env) (i j : Nat) (c ca cb cc : CE) (cs : CA) (ct : CT) (ta tb : CT) (d : D) (p q : D → D → Option D) (p1 : D → Option D) (pl : List D → Option D) (s1 s2 : CS) (g : D → Env → Option Env)
@[simp] theorem e_addI (i j : Int) : pAdd (.int i) (.int j) = some (.int (i + j)) := by simp [pAdd, orP2, pI]
@[simp] theorem e_addT (xs ys : List D) : pAdd (.tup xs) (.tup ys) = if imms xs && imms ys && decide (xs.length + ys.length ≤ sizeLine) then some (.tup (xs ++ ys)) else none := by
  simp [pAdd, orP2, pI, pCatL, pCatT, pCatS]
@[simp] theorem e_addL (g g' : Fl) (xs ys : List D) : pAdd (.lst g xs) (.lst g' ys) = if imms xs && imms ys && decide (xs.length + ys.length ≤ sizeLine) then some (.lst .m (xs ++ ys)) else none := by
  simp [pAdd, orP2, pI, pCatL, pCatT, pCatS]
@[simp] theorem e_pno : pNo env = .ok none env := (rfl)
@[simp] theorem e_pat : pAt ca env = (ca env).bind fun d env => match d with
  | .int i => .ok (some i) env
  | _ => .err := (rfl)
@[simp] theorem e_sl (lo hi : Env → R (Option Int)) : cSl ca lo hi env = (ca env).bind fun d env => (lo env).bind fun l env => (hi env).bind fun h env => R.of (pSl d l h) env := (rfl)
@[simp] theorem e_sl1 (ds : List D) (lo hi : Option Int) : pSl (.tup ds) lo hi = if imms ds then some (.tup (cutD ds lo hi)) else none := (rfl)
@[simp] theorem e_sl2 (g : Fl) (ds : List D) (lo hi : Option Int) : pSl (.lst g ds) lo hi = if imms ds then some (.lst .m (cutD ds lo hi)) else none := (rfl)
@[simp] theorem e_st1 (ds : List D) : pStep (.tup ds) (.int 1) = if imms ds then some (.tup ds) else none := (rfl)
@[simp] theorem e_st2 (ds : List D) : pStep (.tup ds) (.int (-1)) = if imms ds then some (.tup ds.reverse) else none := (rfl)
@[simp] theorem e_st3 (g : Fl) (ds : List D) : pStep (.lst g ds) (.int (-1)) = if imms ds then some (.lst .m ds.reverse) else none := by simp [pStep]
@[simp] theorem e_split : cSplit ca cb env = (ca env).bind fun d env => match d with
  | .str x => (cb env).bind fun y env => R.of (pSplit (.str x) y) env
  | _ => .err := (rfl)
@[simp] theorem e_lc (vs : List Nat) (ct : CT) (ce : CE) (src : CA) : cLc src vs g ct ce env = (src env).bind fun ds env1 =>
  if clearE env1 vs = true ∧ ds.length ≤ sizeLine then (match lcRun vs g ct ce ds (wipeE env1 vs) with
    | some r => .ok (.lst .m r.1) (backE env1 r.2 vs)
    | none => .err) else .err := (rfl)
@[simp] theorem e_anyD : iAnyD c env = (c env).bind fun d env => match d with
  | .lst _ ds => if imms ds then .ok ds env else .err
  | .tup ds => if imms ds then .ok ds env else .err
  | _ => .err := (rfl)
@[simp] theorem e_enumD : iEnumD c env = (c env).bind fun d env => match d with
  | .lst _ ds => if imms ds then .ok (numD 0 ds) env else .err
  | _ => .err := (rfl)
@[simp] theorem e_zipD : iZipD cs env = (cs env).bind fun ds env => R.of (zipP ds) env := (rfl)
@[simp] theorem e_rng1 : iRange1 cs env = (cs env).bind fun ds env => R.of (rngItems ds) env := (rfl)
@[simp] theorem e_wipe0 : wipeE env [] = env := (rfl)
@[simp] theorem e_wipe1 (v : Nat) (vs : List Nat) : wipeE env (v :: vs) = (wipeE env vs).set v none := (rfl)
@[simp] theorem e_back0 (e1 : Env) : backE e1 env [] = env := (rfl)
@[simp] theorem e_back1 (e1 : Env) (v : Nat) (vs : List Nat) : backE e1 env (v :: vs) = (backE e1 env vs).set v (e1.getD v none) := (rfl)
@[simp] theorem e_clear0 : clearE env [] = true := (rfl)
@[simp] theorem e_clear1 (v : Nat) (vs : List Nat) : clearE env (v :: vs) = ((match env[v]? with
  | some (some d) => d.imm
  | _ => true) && clearE env vs) := (rfl)
@[simp] theorem e_yes : cYes env = .ok true env := (rfl)
@[simp] theorem e_gtup (n : Nat) (gs : List D → Env → Option Env) (ds : List D) : gTupD n gs (.tup ds) env = if ds.length = n then gs ds env else none := by
  first | rfl | simp [gTupD]
@[simp] theorem e_gnil : gNilD [] env = some env := (rfl)
@[simp] theorem e_gcons (gs : List D → Env → Option Env) (ds : List D) : gConsD g gs (d :: ds) env = (g d env).bind fun env => gs ds env := (rfl)
@[simp] theorem e_isN1 : pIs .non .non = some (.bl true) := (rfl)
@[simp] theorem e_isN2 (s : Str) : pIs (.str s) .non = some (.bl false) := (rfl)
@[simp] theorem e_isN3 (g : Fl) (ds : List D) : pIs (.lst g ds) .non = some (.bl false) := (rfl)
@[simp] theorem e_isNn1 : pIsNot .non .non = some (.bl false) := (rfl)
@[simp] theorem e_isNn2 (s : Str) : pIsNot (.str s) .non = some (.bl true) := (rfl)
@[simp] theorem e_eqS (i j : Str) : pEq (.str i) (.str j) = some (.bl (i == j)) := (rfl)
@[simp] theorem e_neS (i j : Str) : pNe (.str i) (.str j) = some (.bl (!(i == j))) := (rfl)
@[simp] theorem e_neB (i j : Bool) : pNe (.bl i) (.bl j) = some (.bl (!(i == j))) := (rfl)
@[simp] theorem e_eqB (i j : Bool) : pEq (.bl i) (.bl j) = some (.bl (i == j)) := (rfl)
@[simp] theorem e_list1 (g : Fl) (ds : List D) : pList [.lst g ds] = if imms ds then some (.lst .m ds) else none := (rfl)
@[simp] theorem e_list2 (ds : List D) : pList [.tup ds] = if imms ds then some (.lst .m ds) else none := (rfl)
@[simp] theorem e_tup1 (g : Fl) (ds : List D) : pTuple [.lst g ds] = if imms ds then some (.tup ds) else none := (rfl)
@[simp] theorem e_tup2 (ds : List D) : pTuple [.tup ds] = if imms ds then some (.tup ds) else none := (rfl)
@[simp] theorem e_mut (kd : D → Bool) (mp : D → List D → Option (D × D)) (cl : CL) : cMut i kd mp cl cs env = (cl env).bind fun dF env => if kd dF.1 then (cs env).bind fun ds env => match mp dF.1 ds with
  | some dr => .ok dr.2 (env.set i (some (dF.2 dr.1)))
  | none => .err
  else .err := (rfl)
@[simp] theorem e_lvar : lVar i env = match env[i]? with
  | some (some d) => .ok (d, id) env
  | _ => .err := (rfl)
@[simp] theorem e_kdL (ds : List D) : kdL (.lst .m ds) = true := (rfl)
@[simp] theorem e_app (ds : List D) (x : D) : mAppend (.lst .m ds) [x] = if ds.length < sizeLine then some (.lst .m (ds ++ [x]), .non) else none := (rfl)
@[simp] theorem e_sfor (src : CA) (body : CS) : sFor src g body env = match src env with
  | .ok ds env => forRun g body ds env
  | .ex x env => .ex x env
  | .err => .err := (rfl)
theorem for_nx {g : D → Env → Option Env} {body : CS} {d : D} {ds : List D} {env env1 env2 : Env} (h1 : g d env = some env1) (h2 : body env1 = .nx env2) : forRun g body (d :: ds) env = forRun g body ds env2 := by simp [forRun, h1, h2]
theorem for_rt {g : D → Env → Option Env} {body : CS} {d r : D} {ds : List D} {env env1 env2 : Env} (h1 : g d env = some env1) (h2 : body env1 = .rt r env2) : forRun g body (d :: ds) env = .rt r env2 := by simp [forRun, h1, h2]
end
end VS

set_option maxRecDepth 100000
namespace VS
open PySem L2 SeqAt
/-- a comprehension that changes nothing -/
theorem lc_map {vs : List Nat} {g : D → Env → Option Env} {ce : CE} {env : Env} {y : D → D} : ∀ {ds : List D}, (∀ d ∈ ds, ∃ env1, g d env = some env1 ∧ env1.length = env.length ∧ ce env1 = .ok (y d) env1 ∧ wipeE env1 vs = env) → lcRun vs g cYes ce ds env = some (ds.map y, env)
  | [], _ => rfl
  | d :: ds, h => by
    obtain ⟨env1, h1, h2, h3, h4⟩ := h d (by simp)
    have ih := lc_map (vs := vs) (g := g) (ce := ce) (env := env) (y := y) (ds := ds) fun d hd => h d (by simp [hd])
    unfold lcRun
    simp [h1, h2, h3, h4, ih]
/-- .. with a test -/
theorem lc_filter {vs : List Nat} {g : D → Env → Option Env} {ct : CT} {ce : CE} {env : Env} {y : D → D} {t : D → Bool} : ∀ {ds : List D}, (∀ d ∈ ds, ∃ env1, g d env = some env1 ∧ env1.length = env.length ∧ ct env1 = .ok (t d) env1 ∧ (t d = true → ce env1 = .ok (y d) env1) ∧ wipeE env1 vs = env) →
    lcRun vs g ct ce ds env = some ((ds.filter t).map y, env)
  | [], _ => rfl
  | d :: ds, h => by
    obtain ⟨env1, h1, h2, h3, h4, h5⟩ := h d (by simp)
    have ih := lc_filter (vs := vs) (g := g) (ct := ct) (ce := ce) (env := env) (y := y) (t := t) (ds := ds) fun d hd => h d (by simp [hd])
    unfold lcRun
    cases ht : t d with
    | true => rw [ht] at h3; simp [h1, h2, h3, h4 ht, h5, ih, ht]
    | false => rw [ht] at h3; simp [h1, h2, h3, h5, ih, ht]
@[simp] theorem e_sum1 (g : Fl) (ns : List Int) : pSum [.lst g (ns.map D.int)] = some (.int ns.sum) := by simp [pSum]
@[simp] theorem e_all1 (g : Fl) (ns : List Bool) : pAll [.lst g (ns.map D.bl)] = some (.bl (ns.all id)) := by simp [pAll]
/-- a comprehension whose element changes what stands, by an invariant -/
theorem lc_ex {vs : List Nat} {g : D → Env → Option Env} {ce : CE} {Iv : Env → Prop} {Y : D → D → Prop} : ∀ {ds : List D} {env : Env}, Iv env →
    (∀ d ∈ ds, ∀ env, Iv env → ∃ env1 y env2, g d env = some env1 ∧ env1.length = env.length ∧ ce env1 = .ok y env2 ∧ Y d y ∧ Iv (wipeE env2 vs)) →
    ∃ ys env', lcRun vs g cYes ce ds env = some (ys, env') ∧ Iv env' ∧ Paired Y ds ys
  | [], env, h0, _ => ⟨[], env, rfl, h0, .nil⟩
  | d :: ds, env, h0, h => by
    obtain ⟨env1, y, env2, h1, h2, h3, h4, h5⟩ := h d (by simp) env h0
    obtain ⟨ys, env', k1, k2, k3⟩ := lc_ex (vs := vs) (g := g) (ce := ce) (Iv := Iv) (Y := Y) (ds := ds) h5 fun d hd => h d (by simp [hd])
    refine ⟨y :: ys, env', ?_, k2, .cons h4 k3⟩
    unfold lcRun
    simp [h1, h2, h3, k1]
/-- a loop that goes through, by an invariant -/
theorem for_ex {g : D → Env → Option Env} {body : CS} {Iv : Env → Prop} : ∀ {ds : List D} {env : Env}, Iv env →
    (∀ d ∈ ds, ∀ env, Iv env → ∃ env1 env2, g d env = some env1 ∧ body env1 = .nx env2 ∧ Iv env2) → ∃ env', forRun g body ds env = .nx env' ∧ Iv env'
  | [], env, h0, _ => ⟨env, rfl, h0⟩
  | d :: ds, env, h0, h => by
    obtain ⟨env1, env2, h1, h2, h3⟩ := h d (by simp) env h0
    obtain ⟨env', k1, k2⟩ := for_ex (g := g) (body := body) (Iv := Iv) (ds := ds) h3 fun d hd => h d (by simp [hd])
    exact ⟨env', (for_nx h1 h2).trans k1, k2⟩
theorem e_rng (j : Int) (h0 : -(2 ^ 62) ≤ j) (h : j < 2 ^ 62) : rngItems [.int j] = some ((List.range j.toNat).map fun i => .int (i : Nat)) := if_pos ⟨h0, h⟩
theorem for_exN {g : D → Env → Option Env} {body : CS} {Iv : Nat → Env → Prop} : ∀ {ds : List D} {env : Env} {k : Nat}, Iv k env →
    (∀ i d, k ≤ i → i < k + ds.length → d ∈ ds → ∀ env, Iv i env → ∃ env1 env2, g d env = some env1 ∧ body env1 = .nx env2 ∧ Iv (i + 1) env2) → ∃ env', forRun g body ds env = .nx env' ∧ Iv (k + ds.length) env'
  | [], env, k, h0, _ => ⟨env, rfl, h0⟩
  | d :: ds, env, k, h0, h => by
    obtain ⟨env1, env2, h1, h2, h3⟩ := h k d (Nat.le_refl _) (by simp) (by simp) env h0
    obtain ⟨env', k1, k2⟩ := for_exN (g := g) (body := body) (Iv := Iv) (ds := ds) h3 fun i d hi hj hd => h i d (by omega) (by simp; omega) (by simp [hd])
    refine ⟨env', (for_nx h1 h2).trans k1, ?_⟩
    have : k + (d :: ds).length = k + 1 + ds.length := by simp; omega
    rw [this]; exact k2
theorem look_idx : ∀ {ks : List Key} {ds : List D} {k : Key} {j : Nat}, idxK ks k = some j → ks.length = ds.length → lookD ks ds k = ds[j]? ∧ j < ds.length
  | [], ds, k, j, h, _ => by cases h
  | k0 :: ks, [], k, j, h, hl => by cases hl
  | k0 :: ks, d :: ds, k, j, h, hl => by
    simp only [idxK] at h
    unfold lookD
    by_cases e : k0 = k
    · rw [if_pos e] at h ⊢; cases h; exact ⟨by simp, by simp⟩
    · rw [if_neg e] at h ⊢
      obtain ⟨j', h', rfl⟩ := Option.map_eq_some_iff.mp h
      obtain ⟨h1, h2⟩ := look_idx h' (by simpa using hl)
      exact ⟨by simpa using h1, by simpa using h2⟩
theorem idx_mem : ∀ {ks : List Key} {k : Key}, k ∈ ks → ∃ j, idxK ks k = some j
  | [], k, h => by cases h
  | k0 :: ks, k, h => by
    simp only [idxK]
    by_cases e : k0 = k
    · exact ⟨0, by rw [if_pos e]⟩
    · rw [if_neg e]
      obtain ⟨j, h⟩ := idx_mem ((List.mem_cons.mp h).resolve_left fun z => e z.symm)
      exact ⟨j + 1, by rw [h]; rfl⟩
/-- what a dict of pairs keeps: all keys, and of its values what holds of all values -/
theorem put_keeps {P : D → Prop} {kd : List Key × List D} {k : Key} {x : D} (hl : kd.1.length = kd.2.length) (hp : ∀ y ∈ kd.2, P y) (hx : P x) :
    (putP kd k x).1.length = (putP kd k x).2.length ∧ (∀ y ∈ (putP kd k x).2, P y) ∧ (∀ q ∈ kd.1, q ∈ (putP kd k x).1) ∧ k ∈ (putP kd k x).1 := by
  unfold putP
  cases q : idxK kd.1 k with
  | some j =>
    refine ⟨by simpa using hl, fun y hy => ?_, fun _ h => h, ?_⟩
    · rcases List.mem_or_eq_of_mem_set hy with z | z
      · exact hp y z
      · rw [z]; exact hx
    · exact List.mem_of_getElem? (idx_at q)
  | none =>
    refine ⟨by simp [hl], fun y hy => ?_, fun _ h => List.mem_append_left _ h, by simp⟩
    rcases List.mem_append.mp hy with z | z
    · exact hp y z
    · simp at z; rw [z]; exact hx
theorem fold_keeps {P : D → Prop} : ∀ {ps : List (Key × D)} {kd : List Key × List D}, kd.1.length = kd.2.length → (∀ y ∈ kd.2, P y) → (∀ p ∈ ps, P p.2) →
    (ps.foldl (fun acc p => putP acc p.1 p.2) kd).1.length = (ps.foldl (fun acc p => putP acc p.1 p.2) kd).2.length ∧ (∀ y ∈ (ps.foldl (fun acc p => putP acc p.1 p.2) kd).2, P y) ∧
      (∀ q ∈ kd.1, q ∈ (ps.foldl (fun acc p => putP acc p.1 p.2) kd).1) ∧ ∀ p ∈ ps, p.1 ∈ (ps.foldl (fun acc p => putP acc p.1 p.2) kd).1
  | [], kd, hl, hp, _ => ⟨hl, hp, fun _ h => h, fun _ h => nomatch h⟩
  | (k, x) :: ps, kd, hl, hp, hx => by
    obtain ⟨a1, a2, a3, a4⟩ := put_keeps (k := k) hl hp (hx (k, x) (by simp))
    obtain ⟨b1, b2, b3, b4⟩ := fold_keeps (ps := ps) a1 a2 fun p hp => hx p (by simp [hp])
    refine ⟨b1, b2, fun q hq => b3 q (a3 q hq), fun p hp => ?_⟩
    rcases List.mem_cons.mp hp with z | z
    · subst z; exact b3 _ a4
    · exact b4 p z
theorem mk_look {P : D → Prop} {ps : List (Key × D)} (h : ∀ p ∈ ps, P p.2) : ∀ p ∈ ps, ∃ x, lookD (mkD ps).1 (mkD ps).2 p.1 = some x ∧ P x := fun p hp => by
  obtain ⟨h1, h2, _, h4⟩ := fold_keeps (P := P) (ps := ps) (kd := ([], [])) rfl (fun _ z => nomatch z) h
  obtain ⟨j, hj⟩ := idx_mem (h4 p hp)
  obtain ⟨e1, e2⟩ := look_idx hj h1
  have e3 : ((mkD ps).2)[j]? = some ((mkD ps).2[j]'e2) := List.getElem?_eq_getElem e2
  exact ⟨_, e1.trans e3, h2 _ (List.getElem_mem e2)⟩
end VS

set_option maxRecDepth 100000
namespace VS
open PySem L2 SeqAt PySem.Spec PyProof.Rows

/-! ### fields -/
def lookF : List Str → List D → Str → Option D
  | n :: ns, d :: ds, f => if n = f then some d else lookF ns ds f
  | _, _, _ => none
def idxF : List Str → Str → Option Nat
  | [], _ => none
  | n :: ns, f => if n = f then some 0 else (idxF ns f).map (· + 1)
def fldD (c f : Str) : D → Option D
  | .obj _ c' ns ds => if c' = c then lookF ns ds f else none
  | _ => none
/-- a field may be read of the class c -/
def FldT (K : PySem.W.Frag) (mg : Str → Option Value) (c f : Str) : Prop := ∃ Ca, mg c = some (.ref Ca) ∧ Cls K Ca ∧ NoAttr K Ca f
section
variable {X : Cx} {W : WX} {M M1 M2 M3 V1 V2 V3 Rs R1 R2 R3 : List Nat} {e a b c tg o : Expr} {es : List Expr} {ca cb cc : CE} {cs : CA} {pos p apos : Pos} {cl : CL} {i : Nat}
variable {pins : List (Addr × Obj)} {σ : L2.St} {H H1 H2 H' : Hp} {s : Shared} {C C' : Ctx} {fs fs1 fs2 : FPs} {env env1 env2 : Env} {tf tf' own : List Addr}
theorem lookF_rep : ∀ {fl : List (Str × V)} {ds : List D} {fp : List Addr} {f : Str} {d : D}, Reps C H ds (fl.map (·.2)) fp → lookF (fl.map (·.1)) ds f = some d →
    ∃ v g1 h g2, fl.lookup f = some v ∧ Rep C H d v h ∧ fp = g1 ++ h ++ g2
  | [], ds, fp, k, d, r, h => by simp [lookF] at h
  | kv :: kvs, [], fp, k, d, r, h => by simp [lookF] at h
  | (k0, v0) :: kvs, d0 :: ds, fp, k, d, ⟨v, vs', f1, f2, e, r, rs, e2⟩, h => by
    simp only [List.map_cons, List.cons.injEq] at e
    obtain ⟨rfl, rfl⟩ := e
    simp only [List.map_cons, lookF] at h
    by_cases hk : k0 = k
    · rw [if_pos hk] at h
      cases h
      subst hk
      exact ⟨v0, [], f1, f2, by simp [List.lookup], r, by simpa using e2⟩
    · rw [if_neg hk] at h
      obtain ⟨w, g1, f, g2, h1, h2, h3⟩ := lookF_rep rs h
      have hb : (k == k0) = false := by simpa using fun z : k = k0 => hk z.symm
      exact ⟨w, f1 ++ g1, f, g2, by simp only [List.lookup, hb]; exact h1, h2, by rw [e2, h3]; simp [List.append_assoc]⟩
theorem lookF_none : ∀ {fl : List (Str × V)} {ds : List D} {fp : List Addr} {f : Str}, Reps C H ds (fl.map (·.2)) fp → lookF (fl.map (·.1)) ds f = none → fl.lookup f = none
  | [], ds, fp, k, r, h => rfl
  | (k0, v0) :: kvs, [], fp, k, ⟨h1, _⟩, h => by simp at h1
  | (k0, v0) :: kvs, d0 :: ds, fp, k, ⟨v, vs', f1, f2, e, r, rs, e2⟩, h => by
    simp only [List.map_cons, List.cons.injEq] at e
    obtain ⟨rfl, rfl⟩ := e
    simp only [List.map_cons, lookF] at h
    by_cases hk : k0 = k
    · rw [if_pos hk] at h; cases h
    · rw [if_neg hk] at h
      have hb : (k == k0) = false := by simpa using fun z : k = k0 => hk z.symm
      simp only [List.lookup, hb]
      exact lookF_none rs h
theorem ins_getR {P : Program} {w : World} {h : Heap} {a Ca dx : Addr} {fl : List (Str × V)} (hok : HOk P w H h) (e : Rd H a (.ins Ca dx fl)) : ∃ mA, ObjM h a dx Ca mA ∧ (∀ f, RelO (fl.lookup f) (mA f)) := by
  obtain ⟨d, z, ne, ob, mA, n, r, q⟩ := (show ObjOk P w H h a (.ins Ca dx fl) from e.ok hok)
  exact ⟨mA, ⟨ob, n, ne⟩, r⟩
theorem getattrR {b : Bool} {a Ca dx : Addr} {fl : List (Str × V)} {f : Str} {v : V} {A : Around} {E : Value → Shared → Prop} {Q : Value → Shared → Prop} (I : Inv X pins σ H s) (e : Rd H a (.ins Ca dx fl)) (c : Cls X.K Ca) (n : NoAttr X.K Ca f) (l : fl.lookup f = some v)
    (h : ∀ u s', Inv X pins σ H s' → RelV v u → Q u s') : wpAny (model X.prog X.w) A (getAttr (.ref a) f b) Q E s := by
  obtain ⟨mA, O, r⟩ := ins_getR I.hok e
  obtain ⟨u, hu, ru⟩ := RelO.some_of (v := v) (o := mA f) (by rw [← l]; exact r f)
  exact get_map I.kIn O (c.get f) c.hd n hu (handed_of ru) (h u _ (I.tok _) ru)
theorem getmethR {m : Str} {a Ca dx g : Addr} {fl : List (Str × V)} {A : Around} {E : Value → Shared → Prop} {pl : Sem Bool} {Q : Value × List Value → Shared → Prop} (I : Inv X pins σ H s) (e : Rd H a (.ins Ca dx fl)) (c : Cls X.K Ca) (k : Meth X.K Ca m g) (l : fl.lookup m = none)
    (h : Q (.ref g, [.ref a]) s) : wpAny (model X.prog X.w) A (getMethod (.ref a) m pl) Q E s := by
  obtain ⟨mA, O, r⟩ := ins_getR I.hok e
  have hn : mA m = none := RelO.none_of (by rw [← l]; exact r m)
  exact get_meth I.kIn O (c.get m) k.at_ k.fn hn h
theorem rep_obj {g : Fl} {cn : Str} {ns : List Str} {ds : List D} {v : V} {fp : List Addr} (hF : Fr C H) (r : Rep C H (.obj g cn ns ds) v fp) :
    ∃ a Ca dx fl f1 f, v = .ref a ∧ clsOf C cn Ca ∧ Rd H a (.ins Ca dx fl) ∧ fl.map (·.1) = ns ∧ Reps C H ds (fl.map (·.2)) f ∧ fp = f1 ++ f := by
  obtain ⟨a, Ca, dx, fl, f1, f2, e, c1, n, q, rs, z, e2⟩ := r
  exact ⟨a, Ca, dx, fl, f1, f2, e, c1, (n.rd hF).rd (fun xs => by intro z; cases z), q, rs, e2⟩
/-- what an attribute's reading asks -/
def tAtt (K : PySem.W.Frag) (ta : TE) (f : Str) : TE := fun σ H Q => ta σ H fun x H1 => ∃ a Ca dx fl v, x = .ref a ∧ Rd H1 a (.ins Ca dx fl) ∧ Cls K Ca ∧ NoAttr K Ca f ∧ fl.lookup f = some v ∧ Q v H1
theorem pe_att {f : Str} {ta : TE} (he : PE X e ta) (hb : attributeBase e f X.env (eval e X.env) = eval e X.env) : PE X (.Attribute e f pos) (tAtt X.K ta f) := by
  refine ⟨fun pins s σ H Q I h => ?_⟩
  refine attr_of hb (thn (he.run pins s σ H _ I h) fun u s1 ⟨x, H1, I1, rx, a, Ca, dx, fl, v, ex, ea, c, n, l, q⟩ => ?_)
  subst ex
  obtain rfl : u = Value.ref a := rx
  exact getattrR I1 ea c n l fun u' s2 I2 ru => ⟨v, H1, I2, ru, q⟩
def cFld (c f : Str) (ca : CE) : CE := fun env => (ca env).bind fun d env => R.of (fldD c f d) env
theorem fldD_inv {c f : Str} {d x : D} (h : fldD c f d = some x) : ∃ g ns ds, d = .obj g c ns ds ∧ lookF ns ds f = some x := by
  unfold fldD at h
  split at h
  · split at h
    · rename_i g c' ns ds hc
      subst hc; exact ⟨g, ns, ds, rfl, h⟩
    · cases h
  · cases h
theorem sb_fld {c f : Str} (T : FldT X.K X.mg c f) (ha : SB X W M Rs e ca) (hb : attributeBase e f X.env (eval e X.env) = eval e X.env) : SB X W M Rs (.Attribute e f pos) (cFld c f ca) := by
  obtain ⟨t, p, q⟩ := ha.go
  refine ⟨tAtt X.K t f, pe_att p hb, fun C fs env σ H tf Q hC G po => q C fs env σ H tf _ hC G ?_⟩
  unfold cFld at po
  cases e1 : ca env with
  | err => rw [e1] at po; exact po
  | ex x env' => rw [e1] at po; exact po
  | ok d env' =>
    rw [e1] at po
    intro v fs' H' fp own G' s r i
    have po' : PostB W C M Rs tf fs env σ H Q (R.of (fldD c f d) env') := po
    cases e2 : fldD c f d with
    | none => rw [e2] at po'; exact po'.elim
    | some z =>
      rw [e2] at po'
      obtain ⟨g, ns, ds, rfl, hl⟩ := fldD_inv e2
      obtain ⟨a, Ca, dx, fl, f1, f2, rfl, hcl, rd, hns, rs, ef⟩ := rep_obj G'.fr r
      obtain ⟨Ca', hm, hc, hn⟩ := T
      have : Ca = Ca' := by
        have z1 : C.mg c = some (.ref Ca) := hcl
        rw [hC.2, hm] at z1; cases z1; rfl
      subst this
      rw [← hns] at hl
      obtain ⟨w, g1, h, g2, k1, k2, k3⟩ := lookF_rep rs hl
      refine ⟨a, Ca, dx, fl, w, rfl, rd, hc, hn, k1, po' w fs' H' h own G' s k2 fun x hx => i x ?_⟩
      rw [ef, k3]; simp [hx]
/-! places -/
def kidF (c f : Str) : D → Option (D × (D → D))
  | .obj .m c' ns ds => if c' = c then (idxF ns f).bind fun j => (ds[j]?).map fun x => (x, fun y => .obj .m c' ns (ds.set j y)) else none
  | _ => none
def lFld (c f : Str) (cl : CL) : CL := fun env => (cl env).bind fun dF env => match kidF c f dF.1 with
  | some (x, G) => .ok (x, dF.2 ∘ G) env
  | none => .err
theorem idxF_look : ∀ {fl : List (Str × V)} {f : Str} {j : Nat}, idxF (fl.map (·.1)) f = some j → fl.lookup f = (fl[j]?).map (·.2) ∧ j < fl.length ∧ (fl[j]?).map (·.1) = some f
  | [], k, j, h => by simp [idxF] at h
  | (k0, v0) :: kvs, k, j, h => by
    simp only [List.map_cons, idxF] at h
    by_cases e : k0 = k
    · rw [if_pos e] at h; cases h; subst e
      exact ⟨by simp [List.lookup], by simp, by simp⟩
    · rw [if_neg e] at h
      obtain ⟨j', h', rfl⟩ := Option.map_eq_some_iff.mp h
      obtain ⟨h1, h2, h3⟩ := idxF_look h'
      have hb : (k == k0) = false := by simpa using fun z : k = k0 => e z.symm
      exact ⟨by simp only [List.lookup, hb]; rw [h1]; simp, by simp; omega, by simpa using h3⟩
theorem foc_fld {c f : Str} {d x : D} {G : D → D} {v : V} {fp} (T : FldT X.K X.mg c f) (hC : C.At X) (hF : Fr C H) (r : Rep C H d v fp) (h : kidF c f d = some (x, G)) :
    ∃ v' g1 fp' g2, fp = g1 ++ fp' ++ g2 ∧ Foc C H d v g1 x v' fp' g2 G ∧ ∃ a Ca dx fl, v = .ref a ∧ Rd H a (.ins Ca dx fl) ∧ Cls X.K Ca ∧ NoAttr X.K Ca f ∧ fl.lookup f = some v' := by
  unfold kidF at h
  split at h
  · rename_i c' ns ds
    split at h
    case isFalse => cases h
    rename_i hcc
    subst hcc
    obtain ⟨j, hj, h⟩ := Option.bind_eq_some_iff.mp h
    obtain ⟨x', hx, h⟩ := Option.map_eq_some_iff.mp h
    cases h
    obtain ⟨a, Ca, dx, fl, f1, f2, rfl, hcl, ⟨hH, rfl⟩, hns, rs, _, rfl⟩ := r
    obtain ⟨w', g1, fo, g2, h1, h2, h3, h4⟩ := reps_set rs hx
    obtain ⟨Ca', hm, hc, hn⟩ := T
    have : Ca = Ca' := by
      have z1 : C.mg c' = some (.ref Ca) := hcl
      rw [hC.2, hm] at z1; cases z1; rfl
    subst this
    have hj' := hj
    rw [← hns] at hj'
    obtain ⟨k1, k2, k3⟩ := idxF_look hj'
    rw [List.getElem?_map] at h1
    refine ⟨w', a :: g1, fo, g2, by rw [h3]; simp, ⟨h2, fun H' y f' m k' r' => ?_⟩, a, Ca, dx, fl, rfl, .inl hH, hc, hn, by rw [k1]; exact h1⟩
    have hs := h4 H' y w' f' m (fun b hb => k' b (by simp at hb ⊢; rcases hb with z | z <;> simp [z])) r'
    have e : (fl.map (·.2)).set j w' = fl.map (·.2) := by
      have h1' : (fl.map (·.2))[j]? = some w' := by rw [List.getElem?_map]; exact h1
      obtain ⟨q1, q2⟩ := List.getElem?_eq_some_iff.mp h1'
      conv => rhs; rw [← List.set_getElem_self (as := fl.map (·.2)) (i := j) q1]
      rw [q2]
    rw [e] at hs
    exact ⟨a, Ca, dx, fl, [a], _, rfl, hcl, ⟨by rw [k' a (by simp)]; exact hH, rfl⟩, hns, hs, .inl rfl, by simp⟩
  · cases h
theorem sl_fld {c f : Str} (T : FldT X.K X.mg c f) (ha : SL X W i M e cl) (hb : attributeBase e f X.env (eval e X.env) = eval e X.env) : SL X W i M (.Attribute e f pos) (lFld c f cl) := by
  obtain ⟨t, p, q⟩ := ha.go
  refine ⟨tAtt X.K t f, pe_att p hb, fun C fs env σ H tf Q hC G po => q C fs env σ H tf _ hC G ?_⟩
  unfold lFld at po
  cases e1 : cl env with
  | err => rw [e1] at po; exact po
  | ex x env' => rw [e1] at po; exact po
  | ok dF env1 =>
    rw [e1] at po
    intro v' fs1 H1 d v g1 fp' g2 G1 s1 hd hv hf Fo
    have po1 : PostL W C i M tf fs env σ H Q (match kidF c f dF.1 with
      | some (x, G) => .ok (x, dF.2 ∘ G) env1
      | none => .err) := po
    cases e3 : kidF c f dF.1 with
    | none => rw [e3] at po1; exact po1.elim
    | some xG =>
      rw [e3] at po1
      obtain ⟨x, Gf⟩ := xG
      obtain ⟨v2, h1, f2, h2, ef, F2, a, Ca, dx, fl, rfl, rd, hc, hn, hl⟩ := foc_fld T hC G1.fr Fo.here e3
      refine ⟨a, Ca, dx, fl, v2, rfl, rd, hc, hn, hl, ?_⟩
      refine po1 v2 fs1 H1 d v (g1 ++ h1) f2 (h2 ++ g2) G1 s1 hd hv ?_ (Fo.comp F2 ef)
      rw [hf, ef]; simp [List.append_assoc]
end
end VS

set_option maxRecDepth 100000
namespace VS
open PySem L2 SeqAt PySem.Spec PyProof.Rows
section
variable {X : Cx} {W : WX} {M M1 M2 M3 V1 V2 V3 Rs R1 R2 R3 : List Nat} {e a b c tg o : Expr} {es : List Expr} {ca cb cc : CE} {cs : CA} {pos p apos tpos : Pos} {cl : CL} {i : Nat}
variable {pins : List (Addr × Obj)} {σ : L2.St} {H H1 H2 H3 H' : Hp} {s : Shared} {C C' : Ctx} {fs fs1 fs2 : FPs} {env env1 env2 : Env} {tf tf' own : List Addr}
/-- the nodes at a place and a thing held beside stand apart -/
theorem place_nd {d : D} {g1 fp' g2 fx : List Addr} (G : Good C fs env σ H (fx ++ tf)) (e1 : env[i]? = some (some d)) (e3 : fs.getD i [] = g1 ++ fp' ++ g2) : (fp' ++ fx).Nodup := by
  have nd := G.nd
  have inf : ∀ a ∈ fp', a ∈ fs.getD i [] := fun a ha => by rw [e3]; simp [ha]
  refine List.nodup_append.mpr ⟨?_, (List.nodup_append.mp (List.nodup_append.mp nd).2.1).1, fun a ha b hb eab => ?_⟩
  · have := (List.nodup_append.mp nd).1
    have := (flat_get fs (G.lt e1)).nodup_iff.mp this
    have := (List.nodup_append.mp this).1
    rw [e3] at this
    exact (List.nodup_append.mp (List.nodup_append.mp this).1).2.1
  · subst eab; exact G.apartT (inf a ha) (by simp [hb])
/-- a tree at a place is another one from now on; the thing fx has gone into it -/
theorem place_put {d : D} {v v' : V} {g1 fp' g2 fx fp3 : List Addr} {d' d'' : D} {F : D → D} (G : Good C fs env σ H (fx ++ tf)) (e1 : env[i]? = some (some d)) (e2 : σ[i]? = some (some v)) (e3 : fs.getD i [] = g1 ++ fp' ++ g2)
    (Fo : Foc C H d v g1 d' v' fp' g2 F) (m : Mono H H') (ch : ∀ a o, H a = some o → a ∉ fp' → H' a = some o) (r : Rep C H' d'' v' fp3) (nd : fp3.Nodup) (sub : ∀ a ∈ fp3, a ∈ fp' ∨ a ∈ fx ∨ H a = none) :
    Good C (fs.set i (g1 ++ fp3 ++ g2)) (env.set i (some (F d''))) σ H' tf ∧ Step [i] tf fs env H (fs.set i (g1 ++ fp3 ++ g2)) (env.set i (some (F d''))) H' := by
  have inf : ∀ a ∈ fp', a ∈ fs.getD i [] := fun a ha => by rw [e3]; simp [ha]
  have tfk : ∀ a ∈ tf, H' a = H a := fun a ha => by
    obtain ⟨o, e, _⟩ := G.trk a (by simp [ha])
    rw [e]; exact ch a o e fun hx => G.apartT (inf a hx) (by simp [ha])
  constructor
  · refine G.mut e1 e2 e3 Fo m ch r ?_ ?_ ?_
    · refine List.nodup_append.mpr ⟨nd, (List.nodup_append.mp (List.nodup_append.mp G.nd).2.1).2.1, fun a ha b hb eab => ?_⟩
      subst eab
      rcases sub a ha with z | z | z
      · exact G.apartT (inf a z) (by simp [hb])
      · exact (List.nodup_append.mp (List.nodup_append.mp G.nd).2.1).2.2 a z a hb rfl
      · obtain ⟨o, e, _⟩ := G.trk a (by simp [hb])
        rw [z] at e; cases e
    · intro a ha
      rcases List.mem_append.mp ha with z | z
      · rcases sub a z with w | w | w
        · exact .inl w
        · exact .inr (.inl (by simp [w]))
        · exact .inr (.inr w)
      · exact .inr (.inl (by simp [z]))
    · intro a ha
      rw [tfk a ha]; exact G.trk a (by simp [ha])
  · exact (Step.mut (d := d) G e1 e3 m ch).weak (fun _ z => z) fun x hx => hx

/-! ### a field is stored -/
def stF (c f : Str) : D → D → Option D
  | .obj .m c' ns ds, x => if c' = c ∧ ns.length < 1000 then some (match idxF ns f with
    | some j => .obj .m c' ns (ds.set j x)
    | none => .obj .m c' (ns ++ [f]) (ds ++ [x])) else none
  | _, _ => none
theorem putF_some {f : Str} {v : V} : ∀ {fl : List (Str × V)} {j : Nat}, idxF (fl.map (·.1)) f = some j → putF f v fl = fl.set j (f, v)
  | [], j, h => by simp [idxF] at h
  | (k0, v0) :: kvs, j, h => by
    simp only [List.map_cons, idxF] at h
    by_cases e : k0 = f
    · rw [if_pos e] at h; cases h
      simp [putF, e]
    · rw [if_neg e] at h
      obtain ⟨j', h', rfl⟩ := Option.map_eq_some_iff.mp h
      simp [putF, e, putF_some h']
theorem putF_none {f : Str} {v : V} : ∀ {fl : List (Str × V)}, idxF (fl.map (·.1)) f = none → putF f v fl = fl ++ [(f, v)]
  | [], h => rfl
  | (k0, v0) :: kvs, h => by
    simp only [List.map_cons, idxF] at h
    by_cases e : k0 = f
    · rw [if_pos e] at h; cases h
    · rw [if_neg e] at h
      simp [putF, e, putF_none (fl := kvs) (v := v) (by simpa using h)]
theorem stF_ok {c f : Str} {d x d' : D} {v vx : V} {fp fx} (T : FldT X.K X.mg c f) (hC : C.At X) (r : Rep C H d v fp) (rx : Rep C H x vx fx) (nd : (fp ++ fx).Nodup) (h : stF c f d x = some d') {Q : Hp → Prop}
    (k : ∀ H' fp', Mono H H' → (∀ a o, H a = some o → a ∉ fp → H' a = some o) → Rep C H' d' v fp' → fp'.Nodup → (∀ a ∈ fp', a ∈ fp ∨ a ∈ fx) → Q H') :
    ∃ a Ca dx fl, v = .ref a ∧ H a = some (.ins Ca dx fl) ∧ Cls X.K Ca ∧ NoAttr X.K Ca f ∧ fl.length < 1000 ∧ Q (upd H a (.ins Ca dx (putF f vx fl))) := by
  unfold stF at h
  split at h
  case h_2 => cases h
  rename_i c' ns ds
  split at h
  case isFalse => cases h
  rename_i hcc
  obtain ⟨rfl, hlen⟩ := hcc
  cases h
  obtain ⟨a, Ca, dx, fl, f1, f2, rfl, hcl, ⟨hH, rfl⟩, hns, rs, _, rfl⟩ := r
  obtain ⟨Ca', hm, hc, hn⟩ := T
  have : Ca = Ca' := by
    have z1 : C.mg c' = some (.ref Ca) := hcl
    rw [hC.2, hm] at z1; cases z1; rfl
  subst this
  have hl : fl.length < 1000 := by rw [← hns] at hlen; simpa using hlen
  refine ⟨a, Ca, dx, fl, rfl, hH, hc, hn, hl, ?_⟩
  have m := Mono.upd (o := .ins Ca dx (putF f vx fl)) hH trivial
  have kp : ∀ b, b ≠ a → upd H a (.ins Ca dx (putF f vx fl)) b = H b := fun b hb => upd_ne hb
  cases q : idxF ns f with
  | some j =>
    rw [q] at k
    have q' := q
    rw [← hns] at q'
    obtain ⟨k1, k2, k3⟩ := idxF_look q'
    have hjd : j < ds.length := by rw [reps_length rs]; simpa using k2
    obtain ⟨w', g1, fo, g2, h1, h2, h3, h4⟩ := reps_set rs (j := j) (x := ds[j]) (by simp [hjd])
    subst h3
    have nda : a ∉ g1 ++ fo ++ g2 ++ fx := by simp at nd ⊢; exact ⟨nd.1.1, nd.1.2.1, nd.1.2.2.1, nd.1.2.2.2⟩
    refine k _ (a :: (g1 ++ fx ++ g2)) m (fun b o e hb => ?_) ⟨a, Ca, dx, putF f vx fl, [a], _, rfl, hcl, ⟨upd_same, rfl⟩, ?_, ?_, .inl rfl, rfl⟩ ?_ ?_
    · rw [kp b (fun z => hb (by simp [z]))]; exact e
    · rw [putF_some q', List.map_set, ← hns]
      have hjm : j < (fl.map (·.1)).length := by simpa using k2
      have : (fl.map (·.1))[j] = f := by
        rw [List.getElem?_eq_getElem k2] at k3; simpa using k3
      conv => rhs; rw [← List.set_getElem_self (as := fl.map (·.1)) (i := j) hjm]
      rw [this]
    · have hs2 : (putF f vx fl).map (·.2) = (fl.map (·.2)).set j vx := by rw [putF_some q', List.map_set]
      rw [hs2]
      refine h4 _ x vx fx m (fun b hb => kp b ?_) (rx.keep (fun b hb => kp b ?_) m)
      · intro z; subst z; exact nda (by simp at hb ⊢; rcases hb with z | z <;> simp [z])
      · intro z; subst z; exact nda (by simp [hb])
    · have p : (a :: (g1 ++ fx ++ g2) ++ fo).Perm (a :: (g1 ++ fo ++ g2) ++ fx) := by
        refine List.Perm.cons a ?_
        show ((g1 ++ fx ++ g2) ++ fo).Perm ((g1 ++ fo ++ g2) ++ fx)
        simp only [List.append_assoc]
        refine List.Perm.append_left g1 ?_
        have a1 : (fx ++ (g2 ++ fo)).Perm ((g2 ++ fo) ++ fx) := List.perm_append_comm
        refine a1.trans ?_
        rw [List.append_assoc]
        exact List.perm_append_comm_assoc _ _ _
      exact (List.nodup_append.mp (p.nodup_iff.mpr (by simpa using nd))).1
    · intro b hb
      simp at hb ⊢
      rcases hb with z | z | z | z <;> simp [z]
  | none =>
    rw [q] at k
    have q' := q
    rw [← hns] at q'
    have nda : a ∉ f2 ++ fx := by simp at nd ⊢; exact ⟨nd.1.1, nd.1.2⟩
    refine k _ (a :: (f2 ++ fx)) m (fun b o e hb => ?_) ⟨a, Ca, dx, putF f vx fl, [a], _, rfl, hcl, ⟨upd_same, rfl⟩, by rw [putF_none q', List.map_append, hns]; rfl, ?_, .inl rfl, rfl⟩ (by simpa using nd) ?_
    · rw [kp b (fun z => hb (by simp [z]))]; exact e
    · have hs2 : (putF f vx fl).map (·.2) = fl.map (·.2) ++ [vx] := by rw [putF_none q', List.map_append]; rfl
      rw [hs2]
      refine reps_append (rs.keep (fun b hb => kp b ?_) m) ⟨vx, [], fx, [], rfl, rx.keep (fun b hb => kp b ?_) m, ⟨rfl, rfl⟩, by simp⟩
      · intro z; subst z; exact nda (by simp [hb])
      · intro z; subst z; exact nda (by simp [hb])
    · intro b hb
      simp at hb ⊢
      rcases hb with z | z | z <;> simp [z]
def sSetF (i : Nat) (c f : Str) (cl : CL) (ca : CE) : CS := fun env => match ca env with
  | .ok x env1 => (match cl env1 with
    | .ok dF env2 => (match stF c f dF.1 x with
      | some d' => .nx (env2.set i (some (dF.2 d')))
      | none => .err)
    | _ => .err)
  | .ex x env => .ex x env
  | .err => .err
theorem ss_fld {c f : Str} {pos' : Pos} (T : FldT X.K X.mg c f) (ha : SO X W M1 e ca) (ho : SL X W i M2 o cl) (hs : swapsWith e (some (.Attribute o f pos')) pos.line X.env = pure false) : SS X W (M1 ++ (M2 ++ [i])) [] (.Assign [.Attribute o f pos'] e pos) (sSetF i c f cl ca) := by
  obtain ⟨t, p, q⟩ := ha.go
  obtain ⟨t2, p2, q2⟩ := ho.go
  refine ⟨sFld X.K t2 t f, ps_fld p2 p hs, fun C fs env σ H tf E hC G po => q C fs env σ H tf _ hC G ?_⟩
  unfold sSetF at po
  cases e1 : ca env with
  | err => rw [e1] at po; exact po
  | ex x env' => rw [e1] at po; exact fun cv dd fs' H' G' s => po cv dd fs' σ H' G' (s.ss.weak mem_l (fun _ z => z) fun _ z => z)
  | ok x env1 =>
    rw [e1] at po
    intro vx fs1 H1 fx G1 s1 rx
    refine q2 C fs1 env1 σ H1 (fx ++ tf) _ hC G1 ?_
    have po1 : PostS W C (M1 ++ (M2 ++ [i])) [] tf fs env σ H E (match cl env1 with
      | .ok dF env2 => (match stF c f dF.1 x with
        | some d' => .nx (env2.set i (some (dF.2 d')))
        | none => .err)
      | _ => .err) := po
    cases e2 : cl env1 with
    | err => rw [e2] at po1; exact po1.elim
    | ex z env' => rw [e2] at po1; exact po1.elim
    | ok dF env2 =>
      rw [e2] at po1
      intro v' fs2 H2 d v g1 fp' g2 G2 s2 hd hv hf Fo
      have po2 : PostS W C (M1 ++ (M2 ++ [i])) [] tf fs env σ H E (match stF c f dF.1 x with
        | some d' => .nx (env2.set i (some (dF.2 d')))
        | none => .err) := po1
      cases e3 : stF c f dF.1 x with
      | none => rw [e3] at po2; exact po2.elim
      | some d' =>
        rw [e3] at po2
        have rx2 : Rep C H2 x vx fx := rx.keep (fun a ha => s2.t a (by simp [ha])) s2.m
        refine stF_ok T hC Fo.here rx2 (place_nd G2 hd hf) e3 fun H3 fp3 m3 ch r3 nd3 sub3 => ?_
        obtain ⟨Gn, sn⟩ := place_put G2 hd hv hf Fo m3 ch r3 nd3 fun a ha => (sub3 a ha).elim .inl fun z => .inr (.inl z)
        have w2 := s2.weak (M' := M2) (tf' := tf) (fun _ z => z) fun x hx => by simp [hx]
        exact po2 _ σ H3 Gn (s1.trans (w2.trans sn)).ss

/-! ### op= -/
/-- x op= e of whole numbers -/
def sAug (i : Nat) (g : Int → Int → Int) (ca : CE) : CS := fun env => match env[i]? with
  | some (some (.int x)) => (match ca env with
    | .ok (.int y) env1 => .nx (env1.set i (some (.int (g x y))))
    | .ok _ _ => .err
    | .ex x env => .ex x env
    | .err => .err)
  | _ => .err
theorem aug_go {op : Operator} {g : Int → Int → Int} {rd : V → V → Hp → VK → Prop} {x : Str} {pos' : Pos} (hN : X.N.Nodup) (hop : PIp X op rd) (hrd : ∀ a b H Q, Q (.int (g a b)) H → rd (.int a) (.int b) H Q) (ha : SB X W M Rs e ca) (hi : X.N[i]? = some x) (hx : Loc X.env.scope x)
    (hf : X.fn x = true ∨ X.env.scope.names.lookup x = some .local) : SS X W (M ++ [i]) [i] (.AugAssign (.Name x pos') op e pos) (sAug i g ca) := by
  obtain ⟨t, p, q⟩ := ha.go
  refine ⟨tAug i t rd, ps_aug hN hi hx p hop hf, fun C fs env σ H tf E hC G po => ?_⟩
  unfold sAug at po
  cases e0 : env[i]? with
  | none => rw [e0] at po; exact po.elim
  | some od =>
    cases od with
    | none => rw [e0] at po; exact po.elim
    | some d =>
      obtain ⟨vd, ev, rd0⟩ := G.rep i d e0
      cases d with
      | int x0 =>
        rw [e0] at po
        obtain ⟨rfl, _⟩ := rd0
        refine ⟨.int x0, ev, q C fs env σ H tf _ hC G ?_⟩
        have po' : PostS W C (M ++ [i]) [i] tf fs env σ H E (match ca env with
          | .ok (.int y) env1 => .nx (env1.set i (some (.int (g x0 y))))
          | .ok _ _ => .err
          | .ex x env => .ex x env
          | .err => .err) := po
        cases e1 : ca env with
        | err => rw [e1] at po'; exact po'
        | ex x env' => rw [e1] at po'; exact fun cv dd fs' H' G' s => po' cv dd fs' σ H' G' (s.ss.weak mem_l (fun _ z => nomatch z) fun _ z => z)
        | ok y env1 =>
          rw [e1] at po'
          intro vy fs1 H1 fp own G1 s1 ry iy
          cases y with
          | int y0 =>
            obtain ⟨rfl, _⟩ := ry
            refine hrd _ _ _ _ ?_
            have G2 := G1.drop
            have Gp := (Good.put (i := i) (d := .int (g x0 y0)) (v := .int (g x0 y0)) (fp := []) (tf := tf) (by simpa using G2) ⟨rfl, rfl⟩)
            have Sp := (StepS.put (i := i) (d := .int (g x0 y0)) (v := .int (g x0 y0)) (fp := []) (tf := tf) (by simpa using G2))
            exact po' _ _ _ Gp (s1.ss.trans Sp)
          | _ => exact po'.elim
      | _ => rw [e0] at po; exact po.elim
end
end VS

set_option maxRecDepth 100000
namespace VS
open PySem L2 SeqAt PySem.Spec PyProof.Rows
section
variable {X : Cx} {W : WX} {M M1 M2 M3 V1 V2 V3 Rs R1 R2 R3 : List Nat} {e a b c tg o : Expr} {es : List Expr} {ca cb cc : CE} {cs : CA} {pos p apos tpos : Pos} {cl : CL} {i : Nat} {io : List Bool}
variable {pins : List (Addr × Obj)} {σ : L2.St} {H H1 H2 H3 H' : Hp} {s : Shared} {C C' : Ctx} {fs fs1 fs2 : FPs} {env env1 env2 : Env} {tf tf' own : List Addr} {cr : Env → R (List AV)}
theorem ss_augAdd {x : Str} {pos' : Pos} (hN : X.N.Nodup) (ha : SB X W M Rs e ca) (hi : X.N[i]? = some x) (hx : Loc X.env.scope x) (hf : X.fn x = true ∨ X.env.scope.names.lookup x = some .local) : SS X W (M ++ [i]) [i] (.AugAssign (.Name x pos') .Add e pos) (sAug i (fun i j => i + j) ca) :=
  aug_go hN ip_add (fun a b H Q q => ⟨a, b, rfl, rfl, q⟩) ha hi hx hf
theorem ss_augSub {x : Str} {pos' : Pos} (hN : X.N.Nodup) (ha : SB X W M Rs e ca) (hi : X.N[i]? = some x) (hx : Loc X.env.scope x) (hf : X.fn x = true ∨ X.env.scope.names.lookup x = some .local) : SS X W (M ++ [i]) [i] (.AugAssign (.Name x pos') .Sub e pos) (sAug i (fun i j => i - j) ca) :=
  aug_go hN ip_sub (fun a b H Q q => ⟨a, b, rfl, rfl, q⟩) ha hi hx hf
/-- d[k] op= e of whole numbers -/
def intAt : D → D → Option Int
  | .dct .m ks ds, y => y.key.bind fun k => match lookD ks ds k with
    | some (.int x) => some x
    | _ => none
  | _, _ => none
theorem intAt_inv {d y : D} {x : Int} (h : intAt d y = some x) : ∃ ks ds ky, d = .dct .m ks ds ∧ y.key = some ky ∧ lookD ks ds ky = some (.int x) := by
  unfold intAt at h
  split at h
  · obtain ⟨ky, hk, h⟩ := Option.bind_eq_some_iff.mp h
    split at h
    · cases h
      rename_i hl
      exact ⟨_, _, ky, rfl, hk, hl⟩
    · cases h
  · cases h
def sDAug (i : Nat) (g : Int → Int → Int) (cl : CL) (cb ca : CE) : CS := fun env => match cl env with
  | .ok dF env1 => (match cb env1 with
    | .ok y env2 => (match intAt dF.1 y with
      | some x => (match ca env2 with
        | .ok (.int z) env3 => (match stD dF.1 y (.int (g x z)) with
          | some d' => .nx (env3.set i (some (dF.2 d')))
          | none => .err)
        | _ => .err)
      | none => .err)
    | _ => .err)
  | _ => .err
theorem stD_dct {ks : List Key} {ds : List D} {y x d' : D} {v w vx : V} {fp fw fx} (hC : C.At X) (hF : Fr C H) (r : Rep C H (.dct .m ks ds) v fp) (ry : Rep C H y w fw) (rx : Rep C H x vx fx) (nd : (fp ++ fx).Nodup) (h : stD (.dct .m ks ds) y x = some d') {Q : Hp → Prop}
    (k : ∀ H' fp', Mono H H' → (∀ a o, H a = some o → a ∉ fp → H' a = some o) → Rep C H' d' v fp' → fp'.Nodup → (∀ a ∈ fp', a ∈ fp ∨ a ∈ fx) → Q H') : rSetD v w vx H Q := by
  rcases st_ok hC hF r ry rx nd h k with z | z
  · obtain ⟨a, xs, n, j, e1, e2, e3, _⟩ := z
    obtain ⟨a', kvs, f1, f2, e4, ⟨hH, _⟩, _⟩ := r
    rw [e1] at e4; cases e4
    rw [hH] at e3; cases e3
  · exact z
theorem daug_go {op : Operator} {g : Int → Int → Int} {rd : V → V → Hp → VK → Prop} {k : Nat} (hr : Room k X.A) (hop : InOp X op rd) (hrd : ∀ a b H Q, Q (.int (g a b)) H → rd (.int a) (.int b) H Q) (ho : SL X W i M1 o cl) (hb : SB X W M2 R2 b cb) (ha : SB X W M3 R3 e ca)
    (hi : djB [i] (M2 ++ M3) = true) (h3 : djB R2 M3 = true)
    (hst : ∀ ov iv new, augStore b ov iv new = (do holding [new, ov, iv] (setItem ov iv new); release [new, ov, iv] []; pure .next)) : SS X W (M1 ++ (M2 ++ (M3 ++ [i]))) [] (.AugAssign (.Subscript o b tpos) op e pos) (sDAug i g cl cb ca) := by
  obtain ⟨t, p, q⟩ := ho.go
  obtain ⟨t2, p2, q2⟩ := hb.go
  obtain ⟨t3, p3, q3⟩ := ha.go
  refine ⟨L2.sDAug t t2 t3 rd, ps_daug (by have := hr.units; omega) p p2 p3 hop hst, fun C fs env σ H tf E hC G po => q C fs env σ H tf _ hC G ?_⟩
  unfold sDAug at po
  cases e1 : cl env with
  | err => rw [e1] at po; exact po.elim
  | ex x env' => rw [e1] at po; exact po.elim
  | ok dF env1 =>
    rw [e1] at po
    intro v' fs1 H1 d v g1 fp' g2 G1 s1 hd hv hf Fo
    refine q2 C fs1 env1 σ H1 tf _ hC G1 ?_
    have po1 : PostS W C (M1 ++ (M2 ++ (M3 ++ [i]))) [] tf fs env σ H E (match cb env1 with
      | .ok y env2 => (match intAt dF.1 y with
        | some x => (match ca env2 with
          | .ok (.int z) env3 => (match stD dF.1 y (.int (g x z)) with
            | some d' => .nx (env3.set i (some (dF.2 d')))
            | none => .err)
          | _ => .err)
        | none => .err)
      | _ => .err) := po
    cases e2 : cb env1 with
    | err => rw [e2] at po1; exact po1.elim
    | ex x env' => rw [e2] at po1; exact po1.elim
    | ok y env2 =>
      rw [e2] at po1
      intro w fs2 H2 fw own G2 s2 rw' iw
      have ni : i ∉ M2 := fun z => djB_ok hi i (by simp) (by simp [z])
      have ni3 : i ∉ M3 := fun z => djB_ok hi i (by simp) (by simp [z])
      have Fo2 := Fo.keep s2.m (fun a ha => s2.h i ni a (by rw [hf]; exact ha))
      have hd2 : env2[i]? = some (some d) := by rw [s2.e i ni]; exact hd
      have hf2 : fs2.getD i [] = g1 ++ fp' ++ g2 := by rw [s2.f i ni]; exact hf
      have po2 : PostS W C (M1 ++ (M2 ++ (M3 ++ [i]))) [] tf fs env σ H E (match intAt dF.1 y with
        | some x => (match ca env2 with
          | .ok (.int z) env3 => (match stD dF.1 y (.int (g x z)) with
            | some d' => .nx (env3.set i (some (dF.2 d')))
            | none => .err)
          | _ => .err)
        | none => .err) := po1
      cases e3 : intAt dF.1 y with
      | none => rw [e3] at po2; exact po2.elim
      | some x =>
        rw [e3] at po2
        obtain ⟨ks, ds, ky, hdf, hky, hlk⟩ := intAt_inv e3
        have Foh := Fo2.here
        rw [hdf] at Foh
        have Foh0 := Foh
        obtain ⟨ad, kvs, f1, f2, rfl, ⟨hH, rfl⟩, hks, rs, _, rfl⟩ := Foh
        have ey := key_of hky rw'
        rw [← hks.1] at hlk
        obtain ⟨vx, _, _, _, hvx, rvx, _⟩ := look_rep rs hlk
        obtain ⟨rfl, _⟩ := rvx
        refine ⟨ad, .int x, rfl, .inl ⟨kvs, ky, .inl hH, ey, hvx.symm⟩, ?_⟩
        refine q3 C fs2 env2 σ H2 (own ++ tf) _ hC G2 ?_
        have po3 : PostS W C (M1 ++ (M2 ++ (M3 ++ [i]))) [] tf fs env σ H E (match ca env2 with
          | .ok (.int z) env3 => (match stD dF.1 y (.int (g x z)) with
            | some d' => .nx (env3.set i (some (dF.2 d')))
            | none => .err)
          | _ => .err) := po2
        cases e4 : ca env2 with
        | err => rw [e4] at po3; exact po3.elim
        | ex x env' => rw [e4] at po3; exact po3.elim
        | ok z env3 =>
          rw [e4] at po3
          cases z with
          | int z0 =>
            intro vz fs3 H3 fz own3 G3 s3 rz iz
            obtain ⟨rfl, _⟩ := rz
            have po4 : PostS W C (M1 ++ (M2 ++ (M3 ++ [i]))) [] tf fs env σ H E (match stD dF.1 y (.int (g x z0)) with
              | some d' => .nx (env3.set i (some (dF.2 d')))
              | none => .err) := po3
            cases e5 : stD dF.1 y (.int (g x z0)) with
            | none => rw [e5] at po4; exact po4.elim
            | some d' =>
              rw [e5] at po4
              refine hrd _ _ _ _ ?_
              have Fo3 := Fo2.keep s3.m (fun a ha => s3.h i ni3 a (by rw [hf2]; exact ha))
              have hd3 : env3[i]? = some (some d) := by rw [s3.e i ni3]; exact hd2
              have hf3 : fs3.getD i [] = g1 ++ (ad :: f2) ++ g2 := by rw [s3.f i ni3]; exact hf2
              have rw3 : Rep C H3 y w fw := rw'.keep (iw.keep s3 (djB_ok h3)) s3.m
              have G3' : Good C fs3 env3 σ H3 ([] ++ tf) := by simpa using G3.drop.drop
              have Fh3 := Fo3.here
              rw [hdf] at Fh3 e5
              obtain ⟨ad', H5, e6, e7, e8⟩ := stD_dct hC G3.fr Fh3 rw3 (x := .int (g x z0)) (vx := .int (g x z0)) (fx := []) ⟨rfl, rfl⟩ (place_nd G3' hd3 hf3) e5 (Q := fun H5 => E.nx σ H5) fun H4 fp4 m4 ch r4 nd4 sub4 => by
                obtain ⟨Gn, sn⟩ := place_put G3' hd3 hv hf3 Fo3 m4 ch r4 nd4 fun a ha => (sub4 a ha).elim .inl fun z => .inr (.inl z)
                have w3 := s3.weak (M' := M3) (tf' := tf) (fun _ z => z) fun x hx => by simp [hx]
                exact po4 _ σ H4 Gn (s1.trans (s2.trans (w3.trans sn))).ss
              cases e6
              exact ⟨H5, e7, e8⟩
          | _ => exact po3.elim
theorem ss_daugAdd {k : Nat} (hr : Room k X.A) (ho : SL X W i M1 o cl) (hb : SB X W M2 R2 b cb) (ha : SB X W M3 R3 e ca) (hi : djB [i] (M2 ++ M3) = true) (h3 : djB R2 M3 = true)
    (hst : ∀ ov iv new, augStore b ov iv new = (do holding [new, ov, iv] (setItem ov iv new); release [new, ov, iv] []; pure .next)) : SS X W (M1 ++ (M2 ++ (M3 ++ [i]))) [] (.AugAssign (.Subscript o b tpos) .Add e pos) (sDAug i (fun i j => i + j) cl cb ca) :=
  daug_go hr in_add (fun a b H Q q => ⟨a, b, rfl, rfl, q⟩) ho hb ha hi h3 hst
theorem ss_daugSub {k : Nat} (hr : Room k X.A) (ho : SL X W i M1 o cl) (hb : SB X W M2 R2 b cb) (ha : SB X W M3 R3 e ca) (hi : djB [i] (M2 ++ M3) = true) (h3 : djB R2 M3 = true)
    (hst : ∀ ov iv new, augStore b ov iv new = (do holding [new, ov, iv] (setItem ov iv new); release [new, ov, iv] []; pure .next)) : SS X W (M1 ++ (M2 ++ (M3 ++ [i]))) [] (.AugAssign (.Subscript o b tpos) .Sub e pos) (sDAug i (fun i j => i - j) cl cb ca) :=
  daug_go hr in_sub (fun a b H Q q => ⟨a, b, rfl, rfl, q⟩) ho hb ha hi h3 hst

/-! ### methods -/
def mthOk (c m : Str) : D → Bool
  | .obj _ c' ns _ => decide (c' = c) && decide (m ∉ ns)
  | _ => false
/-- a method of the class c that comes to φ -/
def MthT (P : Program) (w : World) (K : PySem.W.Frag) (mg : Str → Option Value) (base : Heap) (k : Nat) (c m : Str) (ps : List Str) (io : List Bool) (φ : List D → FR) : Prop :=
  ∃ (Ca f : Addr) (fd : FuncData), mg c = some (.ref Ca) ∧ Cls K Ca ∧ Meth K Ca m f ∧ FnOk P w K mg base (L2.CX P w) k f fd ps (spF K mg io φ) ∧ Binds K fd ps []
theorem MthT.mono {P : Program} {w : World} {K : PySem.W.Frag} {mg : Str → Option Value} {base : Heap} {j k : Nat} {c m : Str} {ps : List Str} {io : List Bool} {φ : List D → FR} (F : MthT P w K mg base j c m ps io φ) (h : j ≤ k) : MthT P w K mg base k c m ps io φ :=
  let ⟨Ca, f, fd, h1, h2, h3, h4, h5⟩ := F
  ⟨Ca, f, fd, h1, h2, h3, h4.mono h, h5⟩
def tRecv (Ca : Addr) (m : Str) (ta : TE) (t : TA) : TA := fun σ H Q => ta σ H fun x H1 => ∃ a dx fl, x = .ref a ∧ Rd H1 a (.ins Ca dx fl) ∧ fl.lookup m = none ∧ t σ H1 fun vs H2 => Q (x :: vs) H2
theorem pe_methS {CX : CXT} {k : Nat} {f Ca : Addr} {fd : FuncData} {ps : List Str} {sp : Sp} {E : L2.St → XK} {m : Str} {ta : TE} {t : TA} {pl : Sem Bool} (he : PE X o ta) (c : Cls X.K Ca) (hm : Meth X.K Ca m f) (F : FnOk X.prog X.w X.K X.mg X.base CX k f fd ps sp) (hr : Room k X.A) (hb : Binds X.K fd ps [])
    (hx : ∀ σ, PassesAt CX X σ (E σ)) (ha : PA X (e :: es) t) (hst : starEach (e :: es) X.env = (false, eval e X.env) :: starEach es X.env) (hpl : (backTo pos (starEach es X.env)).any (·.1) = false)
    (ht : eval (.Call (.Attribute o m apos) (e :: es) [] pos) X.env = (do
      let ov ← eval o X.env
      standAt apos.atName
      let (f, first) ← holding [ov] (getMethod ov m pl)
      callWith pos f first (backTo pos (starEach (e :: es) X.env)) (backToKw pos (keywordEach [] X.env)))) :
    PE X (.Call (.Attribute o m apos) (e :: es) [] pos) (fun σ H Q => tRecv Ca m ta t σ H fun vs H1 => sp vs H1 Q (E σ)) := by
  refine ⟨fun pins s σ H Q I h => ?_⟩
  refine PySem.W.methodCall_KW (pl := pl) (thn (he.run pins s σ H _ I h) fun u s1 ⟨x, H1, I1, rx, a, dx, fl, ex, ea, l, q⟩ => ?_) ht
  subst ex
  obtain rfl : u = Value.ref a := rx
  refine getmethR I1 ea c hm l ?_
  refine PySem.W.callWith_K (first := [.ref a]) (h₀ := X.base) I.ok.mod.kin hm.kp (thn (ha.run pos pins s1 σ H1 _ I1 q) fun us s2 ⟨vs, H2, I2, r, q2⟩ => ⟨I2.kIn, ?_⟩) hst hpl
  exact run_fnS (us := .ref a :: us) (vs := .ref a :: vs) F hr hb (hx σ) I2 (.cons rfl r) q2
theorem pe_methS0 {CX : CXT} {k : Nat} {f Ca : Addr} {fd : FuncData} {ps : List Str} {sp : Sp} {E : L2.St → XK} {m : Str} {ta : TE} {pl : Sem Bool} (he : PE X o ta) (c : Cls X.K Ca) (hm : Meth X.K Ca m f) (F : FnOk X.prog X.w X.K X.mg X.base CX k f fd ps sp) (hr : Room k X.A) (hb : Binds X.K fd ps [])
    (hx : ∀ σ, PassesAt CX X σ (E σ))
    (ht : eval (.Call (.Attribute o m apos) [] [] pos) X.env = (do
      let ov ← eval o X.env
      standAt apos.atName
      let (f, first) ← holding [ov] (getMethod ov m pl)
      callWith pos f first (backTo pos (starEach [] X.env)) (backToKw pos (keywordEach [] X.env)))) :
    PE X (.Call (.Attribute o m apos) [] [] pos) (fun σ H Q => tRecv Ca m ta tNil σ H fun vs H1 => sp vs H1 Q (E σ)) := by
  refine ⟨fun pins s σ H Q I h => ?_⟩
  refine PySem.W.methodCall_KW (pl := pl) (thn (he.run pins s σ H _ I h) fun u s1 ⟨x, H1, I1, rx, a, dx, fl, ex, ea, l, q⟩ => ?_) ht
  subst ex
  obtain rfl : u = Value.ref a := rx
  refine getmethR I1 ea c hm l ?_
  exact PySem.W.callWith_K0 (first := [.ref a]) I1.kIn hm.kp (run_fnS (us := [.ref a]) (vs := [.ref a]) F hr hb (hx σ) I1 (.cons rfl .nil) q)
/-- a receiver, and the arguments -/
def aRoM (c m : Str) (ca : CE) (cr : Env → R (List AV)) : Env → R (List AV) := fun env => (ca env).bind fun d env => if mthOk c m d then ((cr env).bind fun as env => .ok (.ro d :: as) env) else .err
def aOwM (c m : Str) (ca : CE) (wb : Option Nat) (cr : Env → R (List AV)) : Env → R (List AV) := fun env => (ca env).bind fun d env => if mthOk c m d then ((cr env).bind fun as env => .ok (.ow d wb :: as) env) else .err
theorem mth_here {c m : Str} {Ca : Addr} {d : D} {v : V} {fp : List Addr} (hC : C.At X) (hF : Fr C H) (hm : X.mg c = some (.ref Ca)) (h : mthOk c m d = true) (r : Rep C H d v fp) : ∃ a dx fl, v = .ref a ∧ Rd H a (.ins Ca dx fl) ∧ fl.lookup m = none := by
  unfold mthOk at h
  split at h
  case h_2 => cases h
  rename_i g c' ns ds
  obtain ⟨h1, h2⟩ := Bool.and_eq_true_iff.mp h
  have h1 := of_decide_eq_true h1
  have h2 := of_decide_eq_true h2
  subst h1
  obtain ⟨a, Ca', dx, fl, f1, f2, rfl, hcl, rd, hns, rs, ef⟩ := rep_obj hF r
  have : Ca' = Ca := by
    have z1 : C.mg c' = some (.ref Ca') := hcl
    rw [hC.2, hm] at z1; cases z1; rfl
  subst this
  refine ⟨a, dx, fl, rfl, rd, ?_⟩
  rw [← hns] at h2
  clear rd rs hns
  induction fl with
  | nil => rfl
  | cons kv fl ih =>
    obtain ⟨k0, v0⟩ := kv
    have hb : (m == k0) = false := by
      simp only [List.map_cons, List.mem_cons, not_or] at h2
      simpa using h2.1
    simp only [List.lookup, hb]
    exact ih (by simp only [List.map_cons, List.mem_cons, not_or] at h2; exact h2.2)
theorem recv_ro {c m : Str} {Ca : Addr} {t : TE} {t2 : TA} (hm : X.mg c = some (.ref Ca))
    (q : ∀ C fs env σ H tf Q, C.At X → Good C fs env σ H tf → PostB W C M1 R1 tf fs env σ H Q (ca env) → t σ H Q)
    (q2 : ∀ C fs env σ H tf Q, C.At X → Good C fs env σ H tf → PostR W C M2 R2 tf fs env σ H Q (cr env) → t2 σ H Q) (hd : djB R1 M2 = true) :
    ∀ C fs env σ H tf Q, C.At X → Good C fs env σ H tf → PostR W C (M1 ++ M2) (R1 ++ R2) tf fs env σ H Q (aRoM c m ca cr env) → tRecv Ca m t t2 σ H Q := by
  intro C fs env σ H tf Q hC G po
  refine q C fs env σ H tf _ hC G ?_
  unfold aRoM at po
  cases e1 : ca env with
  | err => rw [e1] at po; exact po
  | ex x env' => rw [e1] at po; exact fun cv dd fs' H' G' s => po cv dd fs' H' G' (s.weak mem_l fun _ z => z)
  | ok d env1 =>
    rw [e1] at po
    intro v fs1 H1 fp1 own1 G1 s1 r1 i1
    have po0 : PostR W C (M1 ++ M2) (R1 ++ R2) tf fs env σ H Q (if mthOk c m d then ((cr env1).bind fun as env => .ok (.ro d :: as) env) else .err) := po
    split at po0
    case isFalse => exact po0.elim
    rename_i hok
    obtain ⟨a, dx, fl, e0, rd, hl⟩ := mth_here hC G1.fr hm hok r1
    refine ⟨a, dx, fl, e0, rd, hl, ?_⟩
    refine q2 C fs1 env1 σ H1 (own1 ++ tf) _ hC G1 ?_
    cases e2 : cr env1 with
    | err => rw [e2] at po0; exact po0
    | ex x env' => rw [e2] at po0; exact fun cv dd fs' H' G' s => po0 cv dd fs' H' G'.drop (s1.trans (s.weak (fun _ z => z) fun x hx => List.mem_append_right _ hx))
    | ok as env2 =>
      rw [e2] at po0
      intro vs fs2 H2 fps ownr G2 s2 r2
      have po2 : ∀ vs fs' H' fps ownr, Good C fs' env2 σ H' (fps.flatten ++ (ownr ++ tf)) → Step (M1 ++ M2) tf fs env H fs' env2 H' → AOk C H' σ (M1 ++ M2) (R1 ++ R2) fs' ownr (.ro d :: as) vs fps → Q vs H' := po0
      refine po2 (v :: vs) fs2 H2 ([] :: fps) (ownr ++ own1) (by simpa using G2) (s1.trans (s2.weak (fun _ z => z) fun x hx => List.mem_append_right _ hx)) ?_
      exact ⟨v, vs, fp1, fps, rfl, rfl, r1.keep (i1.keep s2 (djB_ok hd)) s2.m, (i1.step (own2 := ownr) s2 (djB_ok hd)).mono mem_l fun _ z => z, r2.mono mem_r mem_r fun _ z => List.mem_append_left _ z⟩
theorem recv_io {c m : Str} {Ca : Addr} {t2 : TA} (hm : X.mg c = some (.ref Ca))
    (q2 : ∀ C fs env σ H tf Q, C.At X → Good C fs env σ H tf → PostR W C M2 R2 tf fs env σ H Q (cr env) → t2 σ H Q) :
    ∀ C fs env σ H tf Q, C.At X → Good C fs env σ H tf → PostR W C ([i] ++ M2) R2 tf fs env σ H Q (aOwM c m (cMv i) (some i) cr env) → tRecv Ca m (tVar i) t2 σ H Q := by
  intro C fs env σ H tf Q hC G po
  unfold aOwM at po
  cases e1 : cMv i env with
  | err => rw [e1] at po; exact po.elim
  | ex x env' => unfold cMv at e1; split at e1 <;> cases e1
  | ok d env1 =>
    rw [e1] at po
    unfold cMv at e1
    split at e1
    case h_2 => cases e1
    rename_i d' e2
    cases e1
    obtain ⟨v, e3, r⟩ := G.rep i d e2
    refine ⟨v, e3, ?_⟩
    have po0 : PostR W C ([i] ++ M2) R2 tf fs env σ H Q (if mthOk c m d then ((cr (env.set i none)).bind fun as env => .ok (.ow d (some i) :: as) env) else .err) := po
    split at po0
    case isFalse => exact po0.elim
    rename_i hok
    obtain ⟨a, dx, fl, e0, rd, hl⟩ := mth_here hC G.fr hm hok r
    refine ⟨a, dx, fl, e0, rd, hl, ?_⟩
    have G1 := G.mv e2
    have s1 : Step [i] tf fs env H (fs.set i []) (env.set i none) H := by
      refine ⟨fun _ _ => rfl, fun j hj => ?_, fun j hj => ?_, fun _ _ _ _ => rfl, .refl H⟩
      · rw [getD_set fs i j [] (G.lt e2), if_neg (by simpa using hj)]
      · rw [List.getElem?_set, if_neg (by intro z; subst z; simp at hj)]
    refine q2 C _ _ σ H (fs.getD i [] ++ tf) _ hC G1 ?_
    cases e4 : cr (env.set i none) with
    | err => rw [e4] at po0; exact po0
    | ex x env' => rw [e4] at po0; exact fun cv dd fs' H' G' s => po0 cv dd fs' H' G'.drop (s1.trans (s.weak (fun _ z => z) fun x hx => List.mem_append_right _ hx))
    | ok as env2 =>
      rw [e4] at po0
      intro vs fs2 H2 fps ownr G2 s2 r2
      have po2 : ∀ vs fs' H' fps ownr, Good C fs' env2 σ H' (fps.flatten ++ (ownr ++ tf)) → Step ([i] ++ M2) tf fs env H fs' env2 H' → AOk C H' σ ([i] ++ M2) R2 fs' ownr (.ow d (some i) :: as) vs fps → Q vs H' := po0
      refine po2 (v :: vs) fs2 H2 (fs.getD i [] :: fps) ownr (G2.perm ?_) (s1.trans (s2.weak (fun _ z => z) fun x hx => List.mem_append_right _ hx)) ?_
      · rw [List.flatten_cons]
        have : (fps.flatten ++ (ownr ++ (fs.getD i [] ++ tf))).Perm (fs.getD i [] ++ (fps.flatten ++ (ownr ++ tf))) := by
          exact ((List.perm_append_comm_assoc _ _ _).append_left _).trans (List.perm_append_comm_assoc _ _ _)
        rw [List.append_assoc]; exact this.symm
      · exact ⟨v, vs, fs.getD i [], fps, rfl, rfl, r.keep (fun x hx => s2.t x (List.mem_append_left _ hx)) s2.m, ⟨e3, by simp⟩, r2.mono mem_r (fun _ z => z) fun _ z => z⟩
theorem shape_ro {c m : Str} (h : ∀ env avs env', cr env = .ok avs env' → avs.map AV.io = io) : ∀ env avs env', aRoM c m ca cr env = .ok avs env' → avs.map AV.io = false :: io := fun env avs env' z => by
  obtain ⟨d, e1, h1, h2⟩ := R.bind_ok z
  split at h2
  · obtain ⟨as, e2, h3, h4⟩ := R.bind_ok h2
    cases h4
    simp [AV.io, h _ _ _ h3]
  · cases h2
theorem shape_ow {c m : Str} {wb} (h : ∀ env avs env', cr env = .ok avs env' → avs.map AV.io = io) : ∀ env avs env', aOwM c m ca wb cr env = .ok avs env' → avs.map AV.io = true :: io := fun env avs env' z => by
  obtain ⟨d, e1, h1, h2⟩ := R.bind_ok z
  split at h2
  · obtain ⟨as, e2, h3, h4⟩ := R.bind_ok h2
    cases h4
    simp [AV.io, h _ _ _ h3]
  · cases h2
variable {k : Nat} {c m : Str} {ps : List Str} {φ : List D → FR}
theorem so_meth {pl : Sem Bool} (F : MthT X.prog X.w X.K X.mg X.base k c m ps (false :: io) φ) (hr : Room k X.A) (tk : Takes X W) (ho : SB X W M1 R1 o ca) (ha : SRI X W M2 R2 io (e :: es) cr) (hd : djB R1 M2 = true)
    (hst : starEach (e :: es) X.env = (false, eval e X.env) :: starEach es X.env) (hpl : (backTo pos (starEach es X.env)).any (·.1) = false)
    (ht : eval (.Call (.Attribute o m apos) (e :: es) [] pos) X.env = (do
      let ov ← eval o X.env
      standAt apos.atName
      let (f, first) ← holding [ov] (getMethod ov m pl)
      callWith pos f first (backTo pos (starEach (e :: es) X.env)) (backToKw pos (keywordEach [] X.env)))) :
    SO X W (M1 ++ M2) (.Call (.Attribute o m apos) (e :: es) [] pos) (cCall φ (aRoM c m ca cr)) := by
  obtain ⟨Ca, f, fd, h1, h2, h3, h4, h5⟩ := F
  obtain ⟨t, p, q⟩ := ho.go
  obtain ⟨t2, p2, q2⟩ := ha.sr.go
  refine ⟨_, pe_methS (E := WE W) (pl := pl) p h2 h3 h4 hr h5 (fun σ => passAt tk σ) p2 hst hpl ht, ?_⟩
  exact call_go (E := WE W) (fun _ _ _ _ h => h) (shape_ro ha.shape) (recv_ro h1 q q2 hd) (by unfold djB; simp)
theorem so_meth0 {pl : Sem Bool} (F : MthT X.prog X.w X.K X.mg X.base k c m ps [false] φ) (hr : Room k X.A) (tk : Takes X W) (ho : SB X W M1 R1 o ca)
    (ht : eval (.Call (.Attribute o m apos) [] [] pos) X.env = (do
      let ov ← eval o X.env
      standAt apos.atName
      let (f, first) ← holding [ov] (getMethod ov m pl)
      callWith pos f first (backTo pos (starEach [] X.env)) (backToKw pos (keywordEach [] X.env)))) :
    SO X W (M1 ++ []) (.Call (.Attribute o m apos) [] [] pos) (cCall φ (aRoM c m ca aNil)) := by
  obtain ⟨Ca, f, fd, h1, h2, h3, h4, h5⟩ := F
  obtain ⟨t, p, q⟩ := ho.go
  refine ⟨_, pe_methS0 (E := WE W) (pl := pl) p h2 h3 h4 hr h5 (fun σ => passAt tk σ) ht, ?_⟩
  refine call_go (E := WE W) (fun _ _ _ _ h => h) (shape_ro (sri_nil (X := X) (W := W)).shape) (recv_ro (cr := aNil) (M2 := []) (R2 := []) h1 q (fun C fs env σ H tf Q hC G po => ?_) (by unfold djB; simp)) (by unfold djB; simp)
  exact po [] fs H [] [] (by simpa using G) .refl ⟨rfl, rfl⟩
theorem so_methI {x : Str} {xpos : Pos} {pl : Sem Bool} (F : MthT X.prog X.w X.K X.mg X.base k c m ps (true :: io) φ) (hr : Room k X.A) (tk : Takes X W) (ha : SRI X W M2 R2 io (e :: es) cr)
    (hN : X.N[i]? = some x) (hv : Vis X.env.scope x) (hdb : (x == ("__debug__" : Str)) = false) (hcd : (x == ("__classdict__" : Str)) = false)
    (hst : starEach (e :: es) X.env = (false, eval e X.env) :: starEach es X.env) (hpl : (backTo pos (starEach es X.env)).any (·.1) = false)
    (ht : eval (.Call (.Attribute (.Name x xpos) m apos) (e :: es) [] pos) X.env = (do
      let ov ← eval (.Name x xpos) X.env
      standAt apos.atName
      let (f, first) ← holding [ov] (getMethod ov m pl)
      callWith pos f first (backTo pos (starEach (e :: es) X.env)) (backToKw pos (keywordEach [] X.env)))) :
    SO X W ([i] ++ M2) (.Call (.Attribute (.Name x xpos) m apos) (e :: es) [] pos) (cCall φ (aOwM c m (cMv i) (some i) cr)) := by
  obtain ⟨Ca, f, fd, h1, h2, h3, h4, h5⟩ := F
  obtain ⟨t2, p2, q2⟩ := ha.sr.go
  refine ⟨_, pe_methS (E := WE W) (pl := pl) (pe_var hN hv hdb hcd) h2 h3 h4 hr h5 (fun σ => passAt tk σ) p2 hst hpl ht, ?_⟩
  exact call_go (E := WE W) (fun _ _ _ _ h => h) (shape_ow ha.shape) (recv_io h1 q2) (by unfold djB; simp)
theorem so_methI0 {x : Str} {xpos : Pos} {pl : Sem Bool} (F : MthT X.prog X.w X.K X.mg X.base k c m ps [true] φ) (hr : Room k X.A) (tk : Takes X W)
    (hN : X.N[i]? = some x) (hv : Vis X.env.scope x) (hdb : (x == ("__debug__" : Str)) = false) (hcd : (x == ("__classdict__" : Str)) = false)
    (ht : eval (.Call (.Attribute (.Name x xpos) m apos) [] [] pos) X.env = (do
      let ov ← eval (.Name x xpos) X.env
      standAt apos.atName
      let (f, first) ← holding [ov] (getMethod ov m pl)
      callWith pos f first (backTo pos (starEach [] X.env)) (backToKw pos (keywordEach [] X.env)))) :
    SO X W ([i] ++ []) (.Call (.Attribute (.Name x xpos) m apos) [] [] pos) (cCall φ (aOwM c m (cMv i) (some i) aNil)) := by
  obtain ⟨Ca, f, fd, h1, h2, h3, h4, h5⟩ := F
  refine ⟨_, pe_methS0 (E := WE W) (pl := pl) (pe_var hN hv hdb hcd) h2 h3 h4 hr h5 (fun σ => passAt tk σ) ht, ?_⟩
  refine call_go (E := WE W) (fun _ _ _ _ h => h) (shape_ow (sri_nil (X := X) (W := W)).shape) (recv_io (cr := aNil) (M2 := []) (R2 := []) h1 (fun C fs env σ H tf Q hC G po => ?_)) (by unfold djB; simp)
  exact po [] fs H [] [] (by simpa using G) .refl ⟨rfl, rfl⟩
end
end VS

set_option maxRecDepth 100000
namespace VS
open PySem L2 SeqAt PySem.Spec PyProof.Rows
section
variable {X : Cx} {W : WX} {M M1 M2 M3 V1 V2 V3 Rs R1 R2 R3 : List Nat} {e a b c tg o : Expr} {es : List Expr} {ca cb cc : CE} {cs : CA} {pos p apos tpos : Pos} {cl : CL} {i : Nat} {io : List Bool}
variable {pins : List (Addr × Obj)} {σ : L2.St} {H H1 H2 H3 H' HA : Hp} {s : Shared} {C C' : Ctx} {fs fs1 fs2 fsA : FPs} {env env1 env2 : Env} {tf tf' own ownr : List Addr} {cr : Env → R (List AV)}
theorem call_fin {A' fpr : List Addr} {avs : List AV} {vs : List V} {fpsA fpso : FPs} {os : List D} (hk : C'.K = C.K) (hm : C'.mg = C.mg) (h0 : C'.H0 = H1) (hA : C'.A = A') (hl : C'.Lk = C.Lk) (G1 : Good C fs1 env1 σ H1 (A' ++ (ownr ++ tf)))
    (ao : AOk C HA σ M Rs fsA ownr avs vs fpsA) (hio : avs.map AV.io = io) (f : Fr C' H2) (m : Mono H1 H2) (orr : OutR C' H2 io os vs fpso) (hn : nols os = true) (hp : putBack avs os env1 = some env2) (nd : (fpr ++ fpso.flatten).Nodup)
    (hw : ∀ a ∈ fpr ++ fpso.flatten, a ∈ A' ∨ H1 a = none) (tk : ∀ a ∈ fpr, ∃ o, H2 a = some o ∧ Mutb o) : ∃ fs2, Good C fs2 env2 σ H2 (fpr ++ tf) ∧ Step M tf fs1 env1 H1 fs2 env2 H2 := by
  obtain ⟨G2, keep⟩ := good_after (C' := C') G1 h0 hA hl f m
  have G3 : Good C fs1 env1 σ H2 ((fpr ++ fpso.flatten) ++ (ownr ++ tf)) := good_come (A' := A') G1 G2 nd hw fun a ha => (List.mem_append.mp ha).elim (tk a) (orr.trk a)
  have G4 : Good C fs1 env1 σ H2 (fpso.flatten ++ (fpr ++ tf)) := by
    refine (G3.sub (tf' := (fpr ++ fpso.flatten) ++ tf) ((List.Sublist.refl _).append (List.sublist_append_right _ _))).perm ?_
    rw [← List.append_assoc]; exact List.perm_append_comm.append_right _
  rw [← hio] at orr
  obtain ⟨fs2, G5, s5⟩ := put_back (C' := C') hk hm hl ao orr hn hp G4
  refine ⟨fs2, G5, ?_⟩
  have s12 : Step M tf fs1 env1 H1 fs1 env1 H2 := ⟨fun a ha => keep a (List.mem_append_right _ (List.mem_append_right _ ha)), fun _ _ => rfl, fun _ _ => rfl, fun i _ a ha => keep a (List.mem_append_left _ (mem_flat ha)), m⟩
  exact (s12.trans (s5.weak (fun _ z => z) fun x hx => List.mem_append_right _ hx)).weak (fun i hi => (List.mem_append.mp hi).elim id id) fun _ z => z
theorem AOk.le {Ms : List Nat} (h : Le H H') : ∀ {avs : List AV} {vs : List V} {fps : FPs}, AOk C H σ Ms Rs fs ownr avs vs fps → AOk C H' σ Ms Rs fs ownr avs vs fps
  | [], vs, fps, x => x
  | .ro d :: as, vs, fps, ⟨v, vs', fp, fps', e1, e2, r, i, x⟩ => ⟨v, vs', fp, fps', e1, e2, r.le h, i, AOk.le h x⟩
  | .ow d wb :: as, vs, fps, ⟨v, vs', fp, fps', e1, e2, r, i, x⟩ => ⟨v, vs', fp, fps', e1, e2, r.le h, i, AOk.le h x⟩

/-! ### a new object -/
theorem run_makeS {CX : CXT} {k : Nat} {f Ca : Addr} {fd : FuncData} {ps : List Str} {sp : Sp} {E : L2.St → XK} {Q : VK} {us : List Value} {vs : List V} (mk : Mk X.K Ca f) (F : FnOk X.prog X.w X.K X.mg X.base CX k f fd ps sp) (hr : Room (k + 1) X.A) (hb : Binds X.K fd ps [])
    (hx : PassesAt CX X σ (E σ)) (I : Inv X pins σ H s) (r : Vals vs us)
    (h : ∀ x dx, H x = none → H dx = none → dx ≠ x → sp (.ref x :: vs) (upd (upd H dx (.own x)) x (.ins Ca dx [])) (fun v H2 => v = .non ∧ Q (.ref x) H2) (E σ)) :
    wpAny (model X.prog X.w) X.A (call (.ref Ca) us) (EP X pins σ Q) X.xe s := by
  have at0 := h (s.heap.objs.size + 1) s.heap.objs.size (I.hok.fresh (Nat.le_succ _)) (I.hok.fresh (Nat.le_refl _)) (Nat.ne_of_lt (Nat.lt_succ_self _))
  have J := Inv.made (C := Ca) I
  have rv : Vals (V.ref (s.heap.objs.size + 1) :: vs) (Value.ref (s.heap.objs.size + 1) :: us) := .cons rfl r
  have ln : (Value.ref (s.heap.objs.size + 1) :: us).length = ps.length := by
    rw [← rv.length]; exact F.len _ _ _ _ at0
  have bd := hb { s with heap := (s.heap.push PySem.W.emptyDict).push (PySem.W.instObj Ca s.heap.objs.size) } (Value.ref (s.heap.objs.size + 1) :: us) J.kIn (by rw [List.append_nil]; exact ln)
  rw [List.append_nil] at bd
  have run := F.run _ X.stack _ _ ⟨Value.ref (s.heap.objs.size + 1) :: us, []⟩ (Value.ref (s.heap.objs.size + 1) :: us) _ _ (E σ) (hr.make Ca us []) (J.env0.make Ca us []) bd rv at0
  refine wpAny_call (make_map (f := f) I.kIn mk.makes mk.init (beq_iff_eq.mp mk.fn) (codeAny_mono run fun res s' hq => ?_))
  match res, hq with
  | .error ex, hq => exact hx pins _ _ ex s' J hq
  | .ok (.ret u), hq =>
    obtain ⟨v, H', J3, rv3, ev, q3⟩ := J.after hq
    subst ev
    exact ⟨rv3, ⟨V.ref (s.heap.objs.size + 1), H', J3, rfl, q3⟩⟩
  | .ok .next, hq => exact False.elim hq
  | .ok .brk, hq => exact False.elim hq
  | .ok .cont, hq => exact False.elim hq
theorem pe_makeS {CX : CXT} {k : Nat} {f Ca : Addr} {fd : FuncData} {ps : List Str} {sp : Sp} {E : L2.St → XK} {x : Str} {t : TA} (mk : Mk X.K Ca f) (F : FnOk X.prog X.w X.K X.mg X.base CX k f fd ps sp) (hr : Room (k + 1) X.A) (hg : Gl X x) (hm : X.mg x = some (.ref Ca)) (hb : Binds X.K fd ps [])
    (hx : ∀ σ, PassesAt CX X σ (E σ)) (ha : PA X (e :: es) t) (hdb : (x == ("__debug__" : Str)) = false) (he : starEach (e :: es) X.env = (false, eval e X.env) :: starEach es X.env) (hpl : (backTo pos (starEach es X.env)).any (·.1) = false) :
    PE X (.Call (.Name x p) (e :: es) [] pos) (fun σ H Q => t σ H fun vs H1 => ∀ y dx, H1 y = none → H1 dx = none → dx ≠ y → sp (.ref y :: vs) (upd (upd H1 dx (.own y)) y (.ins Ca dx [])) (fun v H2 => v = .non ∧ Q (.ref y) H2) (E σ)) := by
  refine ⟨fun pins s σ H Q I h => ?_⟩
  refine wpAny_Call_Name_kw (ld_glob I hg hm ?_ hdb)
  refine PySem.W.callWith_K (h₀ := X.base) I.ok.mod.kin mk.kp (thn (ha.run pos pins s σ H _ I h) fun us s1 ⟨vs, H1, I1, r, q⟩ => ⟨I1.kIn, ?_⟩) he hpl
  exact run_makeS mk F hr hb (hx σ) I1 r q
/-- the class c may be made, by an __init__ that comes to φ -/
def MkT (P : Program) (w : World) (K : PySem.W.Frag) (mg : Str → Option Value) (base : Heap) (k : Nat) (c : Str) (ps : List Str) (io : List Bool) (φ : List D → FR) : Prop :=
  ∃ (Ca f : Addr) (fd : FuncData), mg c = some (.ref Ca) ∧ Mk K Ca f ∧ FnOk P w K mg base (L2.CX P w) k f fd ps (spF K mg (true :: io) φ) ∧ Binds K fd ps []
theorem MkT.mono {P : Program} {w : World} {K : PySem.W.Frag} {mg : Str → Option Value} {base : Heap} {j k : Nat} {c : Str} {ps : List Str} {io : List Bool} {φ : List D → FR} (F : MkT P w K mg base j c ps io φ) (h : j ≤ k) : MkT P w K mg base k c ps io φ :=
  let ⟨Ca, f, fd, h1, h2, h4, h5⟩ := F
  ⟨Ca, f, fd, h1, h2, h4.mono h, h5⟩
def makeEnd (avs : List AV) (env : Env) : FR → R D
  | .ok .non (self :: os) => if self.nol && nols os then (match putBack avs os env with
    | some env' => .ok self env'
    | none => .err) else .err
  | .ex x (_ :: os) => if nols os then (match putBack avs os env with
    | some env' => .ex x env'
    | none => .err) else .err
  | _ => .err
def cMake (c : Str) (φ : List D → FR) (cr : Env → R (List AV)) : CE := fun env => (cr env).bind fun avs env => makeEnd avs env (φ (.obj .m c [] [] :: avs.map AV.d))
theorem make_go {φ : List D → FR} {t : TA} {E : L2.St → XK} {c : Str} {Ca : Addr} (hmc : X.mg c = some (.ref Ca)) (hE : ∀ σ cls d H, W cls d σ H → E σ cls d H) (hio : ∀ env avs env', cr env = .ok avs env' → avs.map AV.io = io)
    (q : ∀ C fs env σ H tf Q, C.At X → Good C fs env σ H tf → PostR W C M Rs tf fs env σ H Q (cr env) → t σ H Q) :
    ∀ C fs env σ H tf Q, C.At X → Good C fs env σ H tf → PostO W C M tf fs env σ H Q (cMake c φ cr env) →
      t σ H fun vs H1 => ∀ y dx, H1 y = none → H1 dx = none → dx ≠ y → spF X.K X.mg (true :: io) φ (.ref y :: vs) (upd (upd H1 dx (.own y)) y (.ins Ca dx [])) (fun v H2 => v = .non ∧ Q (.ref y) H2) (E σ) := by
  intro C fs env σ H tf Q hC G po
  refine q C fs env σ H tf _ hC G ?_
  unfold cMake at po
  cases e1 : cr env with
  | err => rw [e1] at po; exact po
  | ex x env' => rw [e1] at po; exact po
  | ok avs env1 =>
    rw [e1] at po
    intro vs fs1 H1 fps ownr G1 s1 ao y dx hy hdx hne
    have hio' := hio env avs env1 e1
    have po1 : PostO W C M tf fs env σ H Q (makeEnd avs env1 (φ (.obj .m c [] [] :: avs.map AV.d))) := po
    let Hn := upd (upd H1 dx (.own y)) y (.ins Ca dx [])
    have le : Le H1 Hn := (Le.new hdx).trans (Le.new (by rw [upd_ne (Ne.symm hne)]; exact hy))
    have hnew : Hn y = some (.ins Ca dx []) := upd_same
    have Gn : Good C fs1 env1 σ Hn ([y] ++ (fps.flatten ++ (ownr ++ tf))) := G1.grow le (by simp) (by simpa using hy) fun a ha => by
      simp at ha; subst ha; exact ⟨_, hnew, trivial⟩
    have Gn' : Good C fs1 env1 σ Hn ((y :: fps.flatten) ++ (ownr ++ tf)) := by simpa using Gn
    have aon := ao.le le
    let C' : Ctx := ⟨X.K, X.mg, Hn, y :: fps.flatten, C.Lk⟩
    have hk : C'.K = C.K := hC.1.symm
    have hm : C'.mg = C.mg := hC.2.symm
    have E1 : Enter C C' Hn := ⟨hk, hm, rfl, rfl, Gn.fr, fun x hx => ⟨Gn'.own x (List.mem_append_right _ (List.mem_append_left _ hx)), Gn'.trk x (List.mem_append_right _ (List.mem_append_left _ hx))⟩⟩
    have dis : ∀ b, (b ∈ ownr ∨ ∃ r ∈ Rs, b ∈ fs1.getD r []) → b ∉ C'.A := fun b hb hm' => by
      have nd := (List.nodup_append.mp Gn'.nd).2.1
      rcases hb with z | ⟨r, _, z⟩
      · exact (List.nodup_append.mp nd).2.2 b hm' b (List.mem_append_left _ z) rfl
      · exact Gn'.apartT z (List.mem_append_left _ hm')
    have ar := aon.argR E1 dis
    rw [hio'] at ar
    have rself : Rep C' Hn (.obj .m c [] []) (.ref y) [y] := ⟨y, Ca, dx, [], [y], [], rfl, (by show C'.mg c = _; exact hmc), ⟨hnew, rfl⟩, rfl, ⟨rfl, rfl⟩, .inl rfl, rfl⟩
    refine ⟨C.Lk, .obj .m c [] [] :: avs.map AV.d, [y] :: fps, by simp [ao.len, hio'], ⟨_, _, _, _, [y], fps, rfl, rfl, rfl, rself, .inl rfl, ar⟩, by simpa using (List.nodup_append.mp (List.nodup_append.mp Gn'.nd).2.1).1, Gn.lk, ?_⟩
    have s1n : Step M tf fs env H fs1 env1 Hn := by
      have := s1.trans (Step.grow (M := []) (tf := tf) G1.drop.drop le)
      simpa using this
    cases e2 : φ (.obj .m c [] [] :: avs.map AV.d) with
    | err => rw [e2] at po1; exact po1.elim
    | ok r os =>
      rw [e2] at po1
      cases r with
      | non =>
        cases os with
        | nil => exact po1.elim
        | cons self os =>
          simp only [makeEnd] at po1
          split at po1
          case isFalse => exact po1.elim
          rename_i hn
          have hn := Bool.and_eq_true_iff.mp hn
          cases e3 : putBack avs os env1 with
          | none => rw [e3] at po1; exact po1.elim
          | some env2 =>
            rw [e3] at po1
            intro v H2 fpr fps2 f m rr orr nd hw
            obtain ⟨rfl, rfl⟩ := rr
            obtain ⟨o', os', v', vs', fp0, fpso, e4, e5, e6, ro, orr⟩ := orr
            cases e4; cases e5; subst e6
            obtain ⟨fs2, G2, s2⟩ := call_fin (C' := C') (A' := y :: fps.flatten) (fpr := fp0) hk hm rfl rfl rfl Gn' aon hio' f m orr hn.2 e3 (by simpa using nd) (fun a ha => by have := hw a (by simpa using ha); simpa using this) ro.trk
            exact ⟨rfl, po1 (.ref y) fs2 H2 fp0 G2 ((s1n.trans s2).weak (fun i hi => (List.mem_append.mp hi).elim id id) fun _ z => z) (ro.leave hk hm rfl hn.1)⟩
      | _ => exact po1.elim
    | ex x os =>
      rw [e2] at po1
      cases os with
      | nil => exact po1.elim
      | cons self os =>
        simp only [makeEnd] at po1
        split at po1
        case isFalse => exact po1.elim
        rename_i hn
        cases e3 : putBack avs os env1 with
        | none => rw [e3] at po1; exact po1.elim
        | some env2 =>
          rw [e3] at po1
          intro cv dd H2 fps2 f m hx orr nd hw
          obtain ⟨o', os', v', vs', fp0, fpso, e4, e5, e6, ro, orr⟩ := orr
          cases e4; cases e5; subst e6
          have nd' : (fp0 ++ fpso.flatten).Nodup := by simpa using nd
          obtain ⟨fs2, G2, s2⟩ := call_fin (C' := C') (A' := y :: fps.flatten) (fpr := []) hk hm rfl rfl rfl Gn' aon hio' f m orr hn e3 (by simpa using (List.nodup_append.mp nd').2.1) (fun a ha => by
            have := hw a (by simp at ha ⊢; exact .inr ha); simpa using this) fun _ z => nomatch z
          exact hE σ cv dd H2 (po1 cv dd fs2 H2 (by simpa using G2) ((s1n.trans s2).weak (fun i hi => (List.mem_append.mp hi).elim id id) fun _ z => z) (hx.leave hk hm rfl))
theorem so_make {k : Nat} {x : Str} {ps : List Str} {φ : List D → FR} (F : MkT X.prog X.w X.K X.mg X.base k x ps io φ) (hr : Room (k + 1) X.A) (tk : Takes X W) (ha : SRI X W M Rs io (e :: es) cr) (hg : Gl X x)
    (hdb : (x == ("__debug__" : Str)) = false) (he : starEach (e :: es) X.env = (false, eval e X.env) :: starEach es X.env) (hpl : (backTo pos (starEach es X.env)).any (·.1) = false) :
    SO X W M (.Call (.Name x p) (e :: es) [] pos) (cMake x φ cr) := by
  obtain ⟨Ca, f, fd, h1, h2, h3, h4⟩ := F
  obtain ⟨t, pp, q⟩ := ha.sr.go
  refine ⟨_, pe_makeS (E := WE W) h2 h3 hr hg h1 h4 (fun σ => passAt tk σ) pp hdb he hpl, ?_⟩
  exact make_go (E := WE W) h1 (fun _ _ _ _ h => h) ha.shape q
end
end VS

set_option maxRecDepth 100000
namespace VS
open PySem L2 SeqAt PySem.Spec PyProof.Rows
section
variable {X : Cx} {W : WX} {M M1 M2 M3 V1 V2 V3 Rs R1 R2 R3 : List Nat} {e a b c tg o f : Expr} {es : List Expr} {ca cb cc : CE} {cs : CA} {pos p apos tpos cpos : Pos} {cl : CL} {i : Nat} {io : List Bool}
variable {pins : List (Addr × Obj)} {σ : L2.St} {H H1 H2 H3 H' HA : Hp} {s : Shared} {C C' : Ctx} {fs fs1 fs2 fsA : FPs} {env env1 env2 : Env} {tf tf' own ownr : List Addr}
/-! ### {} and {k: v, ..} -/
theorem so_dict0 : SO X W [] (.Dict [] [] pos) (cK (.dct .m [] [])) := by
  refine ⟨tDNewK, pe_dnewK, fun C fs env σ H tf Q hC G po p np => ?_⟩
  refine po (.ref p) fs (upd H p (.dK [])) [p] (G.grow (Le.new np) (by simp) (by simpa using np) fun a ha => ?_) (Step.grow G (Le.new np)) ⟨p, [], [p], [], rfl, ⟨upd_same, rfl⟩, ⟨rfl, .nil⟩, ⟨rfl, rfl⟩, .inl rfl, rfl⟩
  simp at ha; subst ha; exact ⟨_, upd_same, trivial⟩
def cPairs : List (CE × CE) → Env → R (List (Key × D))
  | [], env => .ok [] env
  | (k, v) :: r, env => (k env).bind fun dk env => (v env).bind fun dv env => (cPairs r env).bind fun ps env => match dk.key with
    | some ky => .ok ((ky, dv) :: ps) env
    | none => .err
def PostPP (W : WX) (C : Ctx) (M : List Nat) (tf : List Addr) (fs : FPs) (env : Env) (σ : L2.St) (H : Hp) (Q : List (V × V) → Hp → Prop) : R (List (Key × D)) → Prop
  | .ok ps env' => ∀ (kvs : List (Key × V)) fs' H' fp, Good C fs' env' σ H' (fp ++ tf) → Step M tf fs env H fs' env' H' → kvs.map (·.1) = ps.map (·.1) → Reps C H' (ps.map (·.2)) (kvs.map (·.2)) fp → Q (kvs.map fun kv => (kV kv.1, kv.2)) H'
  | .ex x env' => ∀ cv dd fs' H', Good C fs' env' σ H' tf → Step M tf fs env H fs' env' H' → ExIs C x cv dd H' → W cv dd σ H'
  | .err => False
structure SPP (X : Cx) (W : WX) (pos : Pos) (M : List Nat) (keys : List (Option Expr)) (values : List Expr) (cps : List (CE × CE)) : Prop where
  go : ∃ trs, PPs X pos keys values trs ∧ ∀ C fs env σ H tf Q, C.At X → Good C fs env σ H tf → PostPP W C M tf fs env σ H Q (cPairs cps env) → tPairs trs σ H Q
theorem spp_nil : SPP X W pos [] [] [] [] := by
  refine ⟨[], pps_nil, fun C fs env σ H tf Q hC G po => ?_⟩
  exact po [] fs H [] (by simpa using G) .refl rfl ⟨rfl, rfl⟩
theorem spp_cons {keys : List (Option Expr)} {values : List Expr} {cps : List (CE × CE)} (hk : SB X W M1 R1 a ca) (hv : SO X W M2 b cb) (hr : SPP X W pos M3 keys values cps) : SPP X W pos (M1 ++ (M2 ++ M3)) (some a :: keys) (b :: values) ((ca, cb) :: cps) := by
  obtain ⟨t, p, q⟩ := hk.go
  obtain ⟨t2, p2, q2⟩ := hv.go
  obtain ⟨trs, p3, q3⟩ := hr.go
  refine ⟨(t, t2) :: trs, pps_cons p p2 p3, fun C fs env σ H tf Q hC G po => ?_⟩
  refine q C fs env σ H tf _ hC G ?_
  unfold cPairs at po
  cases e1 : ca env with
  | err => rw [e1] at po; exact po
  | ex x env' => rw [e1] at po; exact fun cv dd fs' H' G' s => po cv dd fs' H' G' (s.weak mem_l fun _ z => z)
  | ok dk env1 =>
    rw [e1] at po
    intro vk fs1 H1 fk ownk G1 s1 rk ik
    refine q2 C fs1 env1 σ H1 tf _ hC G1.drop ?_
    have po1 : PostPP W C (M1 ++ (M2 ++ M3)) tf fs env σ H Q ((cb env1).bind fun dv env => (cPairs cps env).bind fun ps env => match dk.key with
      | some ky => .ok ((ky, dv) :: ps) env
      | none => .err) := po
    cases e2 : cb env1 with
    | err => rw [e2] at po1; exact po1
    | ex x env' => rw [e2] at po1; exact fun cv dd fs' H' G' s => po1 cv dd fs' H' G' ((s1.trans s).weak (fun i hi => by rcases List.mem_append.mp hi with z | z <;> simp [z]) fun _ z => z)
    | ok dv env2 =>
      rw [e2] at po1
      intro vv fs2 H2 fv G2 s2 rv
      refine q3 C fs2 env2 σ H2 (fv ++ tf) _ hC G2 ?_
      have po2 : PostPP W C (M1 ++ (M2 ++ M3)) tf fs env σ H Q ((cPairs cps env2).bind fun ps env => match dk.key with
        | some ky => .ok ((ky, dv) :: ps) env
        | none => .err) := po1
      cases e3 : cPairs cps env2 with
      | err => rw [e3] at po2; exact po2
      | ex x env' => rw [e3] at po2; exact fun cv dd fs' H' G' s => po2 cv dd fs' H' G'.drop (s1.trans (s2.trans (s.weak (fun _ z => z) fun x hx => List.mem_append_right _ hx)))
      | ok ps env3 =>
        rw [e3] at po2
        intro kvs fs3 H3 fp G3 s3 hks rs
        have po3 : PostPP W C (M1 ++ (M2 ++ M3)) tf fs env σ H Q (match dk.key with
          | some ky => .ok ((ky, dv) :: ps) env3
          | none => .err) := po2
        cases e4 : dk.key with
        | none => rw [e4] at po3; exact po3.elim
        | some ky =>
          rw [e4] at po3
          have := key_of e4 rk
          subst this
          have po4 : ∀ (kvs : List (Key × V)) fs' H' fp, Good C fs' env3 σ H' (fp ++ tf) → Step (M1 ++ (M2 ++ M3)) tf fs env H fs' env3 H' → kvs.map (·.1) = ((ky, dv) :: ps).map (·.1) → Reps C H' (((ky, dv) :: ps).map (·.2)) (kvs.map (·.2)) fp → Q (kvs.map fun kv => (kV kv.1, kv.2)) H' := po3
          refine po4 ((ky, vv) :: kvs) fs3 H3 (fv ++ fp) (G3.perm ?_) (s1.trans (s2.trans (s3.weak (fun _ z => z) fun x hx => List.mem_append_right _ hx))) (by simp [hks]) ⟨vv, kvs.map (·.2), fv, fp, rfl, rv.keep (fun x hx => s3.t x (List.mem_append_left _ hx)) s3.m, rs, rfl⟩
          rw [List.append_assoc]; exact List.perm_append_comm_assoc _ _ _
def cDisp (cps : List (CE × CE)) : CE := fun env => (cPairs cps env).bind fun ps env => if ps.length ≤ 15 ∧ (ps.map (·.1)).Nodup then .ok (.dct .m (ps.map (·.1)) (ps.map (·.2))) env else if ps.length ≤ 15 ∧ imms (ps.map (·.2)) = true then .ok (.dct .m (mkD ps).1 (mkD ps).2) env else .err
theorem mergeK_nd : ∀ {more kvs : List (Key × V)}, (kvs.map (·.1) ++ more.map (·.1)).Nodup → mergeK kvs more = kvs ++ more
  | [], kvs, _ => by simp [mergeK]
  | p :: r, kvs, h => by
    have hn : valV kvs p.1 = none := by
      have hp : p.1 ∉ kvs.map (·.1) := fun z => (List.nodup_append.mp h).2.2 p.1 z p.1 (by simp) rfl
      clear h
      induction kvs with
      | nil => rfl
      | cons kv kvs ih =>
        have h1 : ¬ kv.1 = p.1 := fun z => hp (by simp [z])
        rw [valV_neg h1]
        exact ih fun z => hp (by simp only [List.map_cons, List.mem_cons]; exact .inr z)
    have e1 := putK_new p.2 hn
    show mergeK (putK kvs p.1 p.2) r = _
    rw [e1]
    have := mergeK_nd (more := r) (kvs := kvs ++ [(p.1, p.2)]) (by simpa using h)
    rw [this]; simp
theorem so_disp {keys : List (Option Expr)} {values : List Expr} {cps : List (CE × CE)} (h : SPP X W pos M keys values cps) (hall : keys.all (·.isSome) = true) (hl : keys.length = values.length) (h0 : keys ≠ []) (h15 : keys.length ≤ 15) : SO X W M (.Dict keys values pos) (cDisp cps) := by
  obtain ⟨trs, pp, q⟩ := h.go
  refine ⟨tDisp trs, pe_disp pp hall hl h0 h15, fun C fs env σ H tf Q hC G po p np => ?_⟩
  have le0 := Le.new (o := .dK []) np
  have G0 : Good C fs env σ (upd H p (.dK [])) ([p] ++ tf) := G.grow le0 (by simp) (by simpa using np) fun a ha => by
    simp at ha; subst ha; exact ⟨_, upd_same, trivial⟩
  have s0 : Step [] tf fs env H fs env (upd H p (.dK [])) := Step.grow G le0
  refine q C fs env σ _ ([p] ++ tf) _ hC G0 ?_
  unfold cDisp at po
  cases e1 : cPairs cps env with
  | err => rw [e1] at po; exact po
  | ex x env' => rw [e1] at po; exact fun cv dd fs' H' G' s => po cv dd fs' H' G'.drop (s0.trans (s.weak (fun _ z => z) fun x hx => List.mem_append_right _ hx))
  | ok ps env1 =>
    rw [e1] at po
    intro kvs fs1 H1 fp G1 s1 hks rs
    have hp1 : H1 p = some (.dK []) := by rw [s1.t p (by simp)]; exact upd_same
    refine ⟨hp1, kvs, rfl, ?_⟩
    have po1 : PostO W C M tf fs env σ H Q (if ps.length ≤ 15 ∧ (ps.map (·.1)).Nodup then .ok (.dct .m (ps.map (·.1)) (ps.map (·.2))) env1 else if ps.length ≤ 15 ∧ imms (ps.map (·.2)) = true then .ok (.dct .m (mkD ps).1 (mkD ps).2) env1 else .err) := po
    have hlen : kvs.length = ps.length := by have := congrArg List.length hks; simpa using this
    have G1' : Good C fs1 env1 σ H1 (p :: (fp ++ tf)) := G1.perm (by
      have : (p :: (fp ++ tf)).Perm (fp ++ ([p] ++ tf)) := (List.perm_middle (l₁ := fp) (l₂ := tf) (a := p)).symm
      exact this)
    have fin : ∀ (kd : List Key × List D), (mergeK [] kvs).map (·.1) = kd.1 → kd.1.Nodup → (∀ H', Mono H1 H' → (∀ a ∈ fp, H' a = H1 a) → Reps C H' kd.2 ((mergeK [] kvs).map (·.2)) fp) → PostO W C M tf fs env σ H Q (.ok (.dct .m kd.1 kd.2) env1) → Q (.ref p) (upd H1 p (.dK (mergeK [] kvs))) := by
      intro kd h1 h2 h3 po2
      have mu := Mono.upd (o := .dK (mergeK [] kvs)) hp1 trivial
      have npf : ∀ a ∈ fp, a ≠ p := fun a ha e => by
        subst e
        have nd := (List.nodup_append.mp G1'.nd).2.1
        exact (List.nodup_cons.mp nd).1 (List.mem_append_left _ ha)
      have G2 : Good C fs1 env1 σ (upd H1 p (.dK (mergeK [] kvs))) (p :: (fp ++ tf)) := G1'.updT hp1 trivial trivial
      have s2 : Step [] tf fs1 env1 H1 fs1 env1 (upd H1 p (.dK (mergeK [] kvs))) := (Step.updT G1' hp1 trivial).weak (fun _ z => z) fun x hx => List.mem_append_right _ hx
      refine po2 (.ref p) fs1 _ (p :: fp) G2 ?_ ⟨p, mergeK [] kvs, [p], fp, rfl, ⟨upd_same, rfl⟩, ⟨h1, h2⟩, h3 _ mu fun a ha => upd_ne (npf a ha), .inl rfl, rfl⟩
      have := (s0.trans (s1.weak (M' := M) (tf' := tf) (fun _ z => z) fun x hx => List.mem_append_right _ hx)).trans s2
      simpa using this
    split at po1
    · rename_i hc
      refine ⟨by rw [hlen]; exact hc.1, fin (ps.map (·.1), ps.map (·.2)) ?_ hc.2 (fun H' m k => ?_) po1⟩
      · rw [mergeK_nd (by simpa [hks] using hc.2)]; simpa using hks
      · rw [mergeK_nd (by simpa [hks] using hc.2)]
        simpa using rs.keep k m
    · split at po1
      · rename_i hc
        have z := rs.imm hc.2
        subst z
        refine ⟨by rw [hlen]; exact hc.1, fin (mkD ps) ?_ ?_ (fun H' m k => ?_) po1⟩
        · exact (merge_rep (C := C) (H := H1) (acc := []) (kd := ([], [])) hks rs rfl .nil ⟨rfl, rfl⟩).1
        · exact (merge_rep (C := C) (H := H1) (acc := []) (kd := ([], [])) hks rs rfl .nil ⟨rfl, rfl⟩).2.1
        · have := (merge_rep (C := C) (H := H1) (acc := []) (kd := ([], [])) hks rs rfl .nil ⟨rfl, rfl⟩).2.2
          exact this.keep (fun _ z => nomatch z) m
      · exact po1.elim
end
end VS

set_option maxRecDepth 100000
namespace VS
open PySem L2 SeqAt PySem.Spec PyProof.Rows
section
variable {X : Cx} {W : WX} {Ma Mb Mc V1 V2 V3 Rs R1 R2 R3 : List Nat} {e a b c tg o f : Expr} {es : List Expr} {ca cb cc cd : CE} {cs : CA} {pos p apos tpos cpos : Pos} {cl : CL} {i : Nat} {io : List Bool}
variable {pins : List (Addr × Obj)} {σ : L2.St} {H H1 H2 H3 H' HA : Hp} {s : Shared} {C C' : Ctx} {fs fs1 fs2 fsA : FPs} {env env1 env2 : Env} {tf tf' own ownr : List Addr}
/-! ### d.get -/
def isDct : D → Bool
  | .dct _ _ _ => true
  | _ => false
theorem isDct_inv {d : D} (h : isDct d = true) : ∃ g ks ds, d = .dct g ks ds := by
  cases d <;> simp [isDct] at h
  exact ⟨_, _, _, rfl⟩
def getD2 : D → D → D → Option D
  | .dct _ ks ds, y, x => y.key.map fun k => (lookD ks ds k).getD x
  | _, _, _ => none
def cGet1 (cd cb : CE) : CE := fun env => (cd env).bind fun d env => if isDct d then ((cb env).bind fun y env => R.of (getD2 d y .non) env) else .err
def cGet2 (cd cb cc : CE) : CE := fun env => (cd env).bind fun d env => if isDct d then ((cb env).bind fun y env => (cc env).bind fun x env => R.of (getD2 d y x) env) else .err
theorem get_fin {g : Fl} {ks : List Key} {ds : List D} {ad : Addr} {fp : List Addr} {y : D} {w : V} {fw : List Addr} {ky : Key} (hF : Fr C H) (r : Rep C H (.dct g ks ds) (.ref ad) fp) (hky : y.key = some ky) (rw' : Rep C H y w fw) :
    ∃ ov, DGet H ad w ov ∧ (match lookD ks ds ky with
      | none => ov = none
      | some x => ∃ vx hx, ov = some vx ∧ Rep C H x vx hx ∧ ∀ a ∈ hx, a ∈ fp) := by
  obtain ⟨ad2, kvs, g3, g4, e5, hd, hk, rz, ef⟩ := rep_dct hF r
  cases e5
  have ey := key_of hky rw'
  subst hk
  cases e6 : lookD (kvs.map (·.1)) ds ky with
  | none => exact ⟨none, .inl ⟨kvs, ky, hd, ey, (look_none rz e6).symm⟩, rfl⟩
  | some x =>
    obtain ⟨vx, h1', hx, h2', k1, k2, k3⟩ := look_rep rz e6
    exact ⟨some vx, .inl ⟨kvs, ky, hd, ey, k1.symm⟩, vx, hx, rfl, k2, fun a ha => by rw [ef, k3]; simp [ha]⟩
theorem sb_get2 {k : Nat} (hr : Room k X.A) (hd : SB X W Ma R1 o cd) (hb : SB X W Mb R2 e cb) (hc : SO X W Mc f cc) (m : L2.M2 X o "get" apos e f cpos) (h1 : djB R1 (Mb ++ Mc) = true) (h2 : djB R2 Mc = true) :
    SB X W (Ma ++ (Mb ++ Mc)) R1 (.Call (.Attribute o "get" apos) [e, f] [] cpos) (cGet2 cd cb cc) := by
  obtain ⟨t, p, q⟩ := hd.go
  obtain ⟨t2, p2, q2⟩ := hb.go
  obtain ⟨t3, p3, q3⟩ := hc.go
  refine ⟨tDGet2 t t2 t3, pe_dget2 (by have := hr.units; omega) p p2 p3 m, fun C fs env σ H tf Q hC G po => q C fs env σ H tf _ hC G ?_⟩
  unfold cGet2 at po
  cases e1 : cd env with
  | err => rw [e1] at po; exact po
  | ex x env' => rw [e1] at po; exact fun cv dd fs' H' G' s => po cv dd fs' H' G' (s.weak mem_l fun _ z => z)
  | ok d env1 =>
    rw [e1] at po
    intro v fs1 H1 fp own G1 s1 r i1
    have po0 : PostB W C (Ma ++ (Mb ++ Mc)) R1 tf fs env σ H Q (if isDct d then ((cb env1).bind fun y env => (cc env).bind fun x env => R.of (getD2 d y x) env) else .err) := po
    split at po0
    case isFalse => exact po0.elim
    rename_i hdc
    obtain ⟨g, ks, ds, rfl⟩ := isDct_inv hdc
    have r0 := r
    obtain ⟨ad, kvs, g1, g2, rfl, hd, hk, rz, ef⟩ := rep_dct G1.fr r
    refine ⟨ad, rfl, .inl ⟨kvs, hd⟩, q2 C fs1 env1 σ H1 (own ++ tf) _ hC G1 ?_⟩
    cases e2 : cb env1 with
    | err => rw [e2] at po0; exact po0
    | ex x env' => rw [e2] at po0; exact fun cv dd fs' H' G' s => po0 cv dd fs' H' G'.drop ((s1.trans (s.weak (fun _ z => z) fun x hx => List.mem_append_right _ hx)).weak (fun i hi => by rcases List.mem_append.mp hi with z | z <;> simp [z]) fun _ z => z)
    | ok y env2 =>
      rw [e2] at po0
      intro w fs2 H2 fw ownw G2 s2 rw' iw
      refine q3 C fs2 env2 σ H2 (ownw ++ (own ++ tf)) _ hC G2 ?_
      have po2 : PostB W C (Ma ++ (Mb ++ Mc)) R1 tf fs env σ H Q ((cc env2).bind fun x env => R.of (getD2 (.dct g ks ds) y x) env) := po0
      have i2 := i1.step (own2 := ownw) s2 (djB_ok (M := Mb) (by
        unfold djB at h1 ⊢; simp at h1 ⊢; exact fun x hx => (h1 x hx).1))
      cases e3 : cc env2 with
      | err => rw [e3] at po2; exact po2
      | ex x env' => rw [e3] at po2; exact fun cv dd fs' H' G' s => po2 cv dd fs' H' G'.drop.drop ((s1.trans (s2.weak (fun _ z => z) fun x hx => List.mem_append_right _ hx)).trans (s.weak (fun _ z => z) fun x hx => List.mem_append_right _ (List.mem_append_right _ hx)) |>.weak (fun i hi => by
          rcases List.mem_append.mp hi with z | z
          · rcases List.mem_append.mp z with z | z <;> simp [z]
          · simp [z]) fun _ z => z)
      | ok x env3 =>
        rw [e3] at po2
        intro vx fs3 H3 fx G3 s3 rx
        have po3 : PostB W C (Ma ++ (Mb ++ Mc)) R1 tf fs env σ H Q (R.of (getD2 (.dct g ks ds) y x) env3) := po2
        have hMb : ∀ r ∈ R1, r ∉ Mb := djB_ok (by unfold djB at h1 ⊢; simp at h1 ⊢; exact fun x hx => (h1 x hx).1)
        have hMc : ∀ r ∈ R1, r ∉ Mc := djB_ok (by unfold djB at h1 ⊢; simp at h1 ⊢; exact fun x hx => (h1 x hx).2)
        have s3w : Step Mc ((ownw ++ own) ++ tf) fs2 env2 H2 fs3 env3 H3 := s3.weak (fun _ z => z) fun x hx => by rw [List.append_assoc] at hx; exact hx
        have r2 : Rep C H3 (.dct g ks ds) (.ref ad) fp := (r0.keep (i1.keep s2 hMb) s2.m).keep (i2.keep s3w hMc) s3.m
        have rw3 : Rep C H3 y w fw := rw'.keep (iw.keep (tf := own ++ tf) s3 (djB_ok h2)) s3.m
        cases e4 : getD2 (.dct g ks ds) y x with
        | none => rw [e4] at po3; exact po3.elim
        | some z =>
          rw [e4] at po3
          obtain ⟨ky, hky, rfl⟩ := Option.map_eq_some_iff.mp e4
          obtain ⟨ov, hg, hov⟩ := get_fin G3.fr r2 hky rw3
          refine ⟨ov, hg, ?_⟩
          have st := (s1.trans (s2.weak (M' := Mb) (tf' := tf) (fun _ z => z) fun x hx => List.mem_append_right _ hx)).trans (s3.weak (M' := Mc) (tf' := tf) (fun _ z => z) fun x hx => List.mem_append_right _ (List.mem_append_right _ hx))
          have st' : Step (Ma ++ (Mb ++ Mc)) tf fs env H fs3 env3 H3 := st.weak (fun i hi => by
            rcases List.mem_append.mp hi with z | z
            · rcases List.mem_append.mp z with z | z <;> simp [z]
            · simp [z]) fun _ z => z
          cases e6 : lookD ks ds ky with
          | none =>
            rw [e6] at hov
            subst hov
            rw [e6] at po3
            exact po3 vx fs3 H3 fx fx (G3.sub ((List.Sublist.refl _).append ((List.sublist_append_right _ _).trans (List.sublist_append_right _ _)))) st' rx fun a ha => .inl ha
          | some x' =>
            rw [e6] at hov
            obtain ⟨vx', hx, rfl, k2, k3⟩ := hov
            rw [e6] at po3
            refine po3 vx' fs3 H3 hx (ownw ++ own) (G3.sub ?_) st' k2 fun a ha => ?_
            · rw [List.append_assoc]; exact List.sublist_append_right _ _
            · exact (i2.step (own2 := []) (tf := tf) s3w hMc).mono (fun _ z => z) (fun a ha => by simpa using ha) a (k3 a ha)
  all_goals skip
theorem sb_get1 {k : Nat} (hr : Room k X.A) (hd : SB X W Ma R1 o cd) (hb : SB X W Mb R2 e cb) (m : L2.M1 X o "get" apos e cpos) (h1 : djB R1 Mb = true) : SB X W (Ma ++ Mb) R1 (.Call (.Attribute o "get" apos) [e] [] cpos) (cGet1 cd cb) := by
  obtain ⟨t, p, q⟩ := hd.go
  obtain ⟨t2, p2, q2⟩ := hb.go
  refine ⟨tDGet1 t t2, pe_dget1 (by have := hr.units; omega) p p2 m, fun C fs env σ H tf Q hC G po => q C fs env σ H tf _ hC G ?_⟩
  unfold cGet1 at po
  cases e1 : cd env with
  | err => rw [e1] at po; exact po
  | ex x env' => rw [e1] at po; exact fun cv dd fs' H' G' s => po cv dd fs' H' G' (s.weak mem_l fun _ z => z)
  | ok d env1 =>
    rw [e1] at po
    intro v fs1 H1 fp own G1 s1 r i1
    have po0 : PostB W C (Ma ++ Mb) R1 tf fs env σ H Q (if isDct d then ((cb env1).bind fun y env => R.of (getD2 d y .non) env) else .err) := po
    split at po0
    case isFalse => exact po0.elim
    rename_i hdc
    obtain ⟨g, ks, ds, rfl⟩ := isDct_inv hdc
    have r0 := r
    obtain ⟨ad, kvs, g1, g2, rfl, hd, hk, rz, ef⟩ := rep_dct G1.fr r
    refine ⟨ad, rfl, .inl ⟨kvs, hd⟩, q2 C fs1 env1 σ H1 (own ++ tf) _ hC G1 ?_⟩
    cases e2 : cb env1 with
    | err => rw [e2] at po0; exact po0
    | ex x env' => rw [e2] at po0; exact fun cv dd fs' H' G' s => po0 cv dd fs' H' G'.drop (s1.trans (s.weak (fun _ z => z) fun x hx => List.mem_append_right _ hx))
    | ok y env2 =>
      rw [e2] at po0
      intro w fs2 H2 fw ownw G2 s2 rw' iw
      have po3 : PostB W C (Ma ++ Mb) R1 tf fs env σ H Q (R.of (getD2 (.dct g ks ds) y .non) env2) := po0
      have r2 : Rep C H2 (.dct g ks ds) (.ref ad) fp := r0.keep (i1.keep s2 (djB_ok h1)) s2.m
      have st := s1.trans (s2.weak (M' := Mb) (tf' := tf) (fun _ z => z) fun x hx => List.mem_append_right _ hx)
      cases e4 : getD2 (.dct g ks ds) y .non with
      | none => rw [e4] at po3; exact po3.elim
      | some z =>
        rw [e4] at po3
        obtain ⟨ky, hky, rfl⟩ := Option.map_eq_some_iff.mp e4
        obtain ⟨ov, hg, hov⟩ := get_fin G2.fr r2 hky rw'
        refine ⟨ov, hg, ?_⟩
        cases e6 : lookD ks ds ky with
        | none =>
          rw [e6] at hov
          subst hov
          rw [e6] at po3
          exact po3 .non fs2 H2 [] [] (by simpa using G2.drop.drop) st ⟨rfl, rfl⟩ fun a ha => nomatch ha
        | some x' =>
          rw [e6] at hov
          obtain ⟨vx', hx, rfl, k2, k3⟩ := hov
          rw [e6] at po3
          refine po3 vx' fs2 H2 hx (ownw ++ own) (by rw [List.append_assoc]; exact G2) st k2 fun a ha => ?_
          exact i1.step (own2 := ownw) s2 (djB_ok h1) a (k3 a ha)
/-! ### d.setdefault(k, x) as a place -/
def setdD : D → D → D → Option (Option D × D × (D → D))
  | .dct .m ks ds, y, x => y.key.bind fun k => if ks.length < sizeLine then (match idxK ks k with
    | some j => (ds[j]?).map fun z => (none, z, fun w => .dct .m ks (ds.set j w))
    | none => some (some (.dct .m (ks ++ [k]) (ds ++ [x])), x, fun w => .dct .m (ks ++ [k]) ((ds ++ [x]).set ds.length w))) else none
  | _, _, _ => none
def lSetd (i : Nat) (cl : CL) (cb cc : CE) : CL := fun env => (cl env).bind fun dF env => if isDct dF.1 then ((cb env).bind fun y env => (cc env).bind fun x env => match setdD dF.1 y x with
  | some (some d', z, G) => .ok (z, dF.2 ∘ G) (env.set i (some (dF.2 d')))
            | some (none, z, G) => .ok (z, dF.2 ∘ G) env
  | none => .err) else .err
theorem put_get_self {i : Nat} {d : D} {env : Env} (h : env[i]? = some (some d)) : env.set i (some d) = env := by
  obtain ⟨h1, h2⟩ := List.getElem?_eq_some_iff.mp h
  conv => rhs; rw [← List.set_getElem_self (as := env) (i := i) h1]
  rw [h2]
theorem Foc.same {d : D} {v : V} {g1 : List Addr} {d' : D} {v' : V} {fp' g2 : List Addr} {F : D → D} (Fo : Foc C H d v g1 d' v' fp' g2 F) : Rep C H (F d') v (g1 ++ fp' ++ g2) := Fo.back H d' fp' (.refl H) (fun _ _ => rfl) Fo.here
theorem reps_snoc {ds : List D} {vs : List V} {x : D} {v : V} {f g : List Addr} (r : Reps C H ds vs f) (rx : Rep C H x v g) : Reps C H (ds ++ [x]) (vs ++ [v]) (f ++ g) := reps_append r ⟨v, [], g, [], rfl, rx, ⟨rfl, rfl⟩, by simp⟩
theorem idx_snoc : ∀ {ks : List Key} {ky : Key}, idxK ks ky = none → idxK (ks ++ [ky]) ky = some ks.length
  | [], ky, _ => by simp [idxK]
  | k0 :: ks, ky, h => by
    simp only [idxK] at h
    by_cases hk : k0 = ky
    · rw [if_pos hk] at h; cases h
    · rw [if_neg hk] at h
      show (if k0 = ky then some 0 else (idxK (ks ++ [ky]) ky).map (· + 1)) = _
      rw [if_neg hk, idx_snoc (ks := ks) (by simpa using h)]; simp
theorem foc_dj {ks : List Key} {ds : List D} {kvs : List (Key × V)} {ad : Addr} {f2 : List Addr} {ky : Key} {j : Nat} {z : D} (hH : H ad = some (.dK kvs)) (hks : kvs.map (·.1) = ks ∧ ks.Nodup) (rs : Reps C H ds (kvs.map (·.2)) f2) (hj : idxK ks ky = some j) (hz : ds[j]? = some z) :
    ∃ w g1 fo g2, valV kvs ky = some w ∧ f2 = g1 ++ fo ++ g2 ∧ Foc C H (.dct .m ks ds) (.ref ad) (ad :: g1) z w fo g2 (fun y => .dct .m ks (ds.set j y)) := by
  obtain ⟨w', g1, fo, g2, h1, h2, h3, h4⟩ := reps_set rs hz
  have hj' := hj
  rw [← hks.1] at hj'
  obtain ⟨hv1, hv2⟩ := idx_val hj'
  refine ⟨w', g1, fo, g2, by rw [hv1]; rw [List.getElem?_map] at h1; exact h1, h3, h2, fun H' y f' m k' r' => ?_⟩
  have hs := h4 H' y w' f' m (fun b hb => k' b (by simp at hb ⊢; rcases hb with z | z <;> simp [z])) r'
  have e : (kvs.map (·.2)).set j w' = kvs.map (·.2) := by
    obtain ⟨q1, q2⟩ := List.getElem?_eq_some_iff.mp h1
    conv => rhs; rw [← List.set_getElem_self (as := kvs.map (·.2)) (i := j) q1]
    rw [q2]
  rw [e] at hs
  exact ⟨ad, kvs, [ad], _, rfl, ⟨by rw [k' ad (by simp)]; exact hH, rfl⟩, hks, hs, .inl rfl, by simp⟩
theorem sl_setd (ho : SL X W i Ma o cl) (hb : SB X W Mb R2 e cb) (hc : SO X W Mc f cc) (m : L2.M2 X o "setdefault" apos e f cpos) (hi : djB [i] (Mb ++ Mc) = true) (h2 : djB R2 Mc = true) :
    SL X W i (Ma ++ (Mb ++ (Mc ++ [i]))) (.Call (.Attribute o "setdefault" apos) [e, f] [] cpos) (lSetd i cl cb cc) := by
  obtain ⟨t, p, q⟩ := ho.go
  obtain ⟨t2, p2, q2⟩ := hb.go
  obtain ⟨t3, p3, q3⟩ := hc.go
  refine ⟨tDSetd t t2 t3, pe_dsetd p p2 p3 m, fun C fs env σ H tf Q hC G po => q C fs env σ H tf _ hC G ?_⟩
  unfold lSetd at po
  have wk : ∀ {i : Nat}, i ∈ Ma → i ∈ Ma ++ (Mb ++ (Mc ++ [i])) := fun h => by simp [h]
  cases e1 : cl env with
  | err => rw [e1] at po; exact po
  | ex x env' => rw [e1] at po; exact fun cv dd fs' H' G' s => po cv dd fs' H' G' (s.weak mem_l fun _ z => z)
  | ok dF env1 =>
    rw [e1] at po
    intro v' fs1 H1 d v g1 fp' g2 G1 s1 hd hv hf Fo
    have po0 : PostL W C i (Ma ++ (Mb ++ (Mc ++ [i]))) tf fs env σ H Q (if isDct dF.1 then ((cb env1).bind fun y env => (cc env).bind fun x env => match setdD dF.1 y x with
      | some (some d', z, G) => .ok (z, dF.2 ∘ G) (env.set i (some (dF.2 d')))
            | some (none, z, G) => .ok (z, dF.2 ∘ G) env
      | none => .err) else .err) := po
    split at po0
    case isFalse => exact po0.elim
    rename_i hdc
    obtain ⟨g, ks, ds, hdf⟩ := isDct_inv hdc
    have Fh := Fo.here
    rw [hdf] at Fh
    obtain ⟨ad, kvs0, _, _, rfl, hdd, _, _, _⟩ := rep_dct G1.fr Fh
    refine ⟨ad, rfl, .inl ⟨kvs0, hdd⟩, q2 C fs1 env1 σ H1 tf _ hC G1 ?_⟩
    cases e2 : cb env1 with
    | err => rw [e2] at po0; exact po0
    | ex x env' => rw [e2] at po0; exact fun cv dd fs' H' G' s => po0 cv dd fs' H' G' ((s1.trans s).weak (fun i hi => by rcases List.mem_append.mp hi with z | z <;> simp [z]) fun _ z => z)
    | ok y env2 =>
      rw [e2] at po0
      intro w fs2 H2 fw ownw G2 s2 rw' iw
      have ni : i ∉ Mb := fun z => djB_ok hi i (by simp) (by simp [z])
      have ni3 : i ∉ Mc := fun z => djB_ok hi i (by simp) (by simp [z])
      refine q3 C fs2 env2 σ H2 (ownw ++ tf) _ hC G2 ?_
      have po1 : PostL W C i (Ma ++ (Mb ++ (Mc ++ [i]))) tf fs env σ H Q ((cc env2).bind fun x env => match setdD dF.1 y x with
        | some (some d', z, G) => .ok (z, dF.2 ∘ G) (env.set i (some (dF.2 d')))
            | some (none, z, G) => .ok (z, dF.2 ∘ G) env
        | none => .err) := po0
      cases e3 : cc env2 with
      | err => rw [e3] at po1; exact po1
      | ex x env' => rw [e3] at po1; exact fun cv dd fs' H' G' s => po1 cv dd fs' H' G'.drop (((s1.trans s2).trans (s.weak (fun _ z => z) fun x hx => List.mem_append_right _ hx)).weak (fun i hi => by
          rcases List.mem_append.mp hi with z | z
          · rcases List.mem_append.mp z with z | z <;> simp [z]
          · simp [z]) fun _ z => z)
      | ok x env3 =>
        rw [e3] at po1
        intro vx fs3 H3 fx G3 s3 rx
        have G3' : Good C fs3 env3 σ H3 (fx ++ tf) := G3.sub ((List.Sublist.refl _).append (List.sublist_append_right _ _))
        have Fo2 := Fo.keep s2.m (fun a ha => s2.h i ni a (by rw [hf]; exact ha))
        have hf2 : fs2.getD i [] = g1 ++ fp' ++ g2 := by rw [s2.f i ni]; exact hf
        have Fo3 := Fo2.keep s3.m (fun a ha => s3.h i ni3 a (by rw [hf2]; exact ha))
        have hd3 : env3[i]? = some (some d) := by rw [s3.e i ni3, s2.e i ni]; exact hd
        have hf3 : fs3.getD i [] = g1 ++ fp' ++ g2 := by rw [s3.f i ni3]; exact hf2
        have rw3 : Rep C H3 y w fw := rw'.keep (iw.keep s3 (djB_ok h2)) s3.m
        have st : Step (Ma ++ (Mb ++ Mc)) tf fs env H fs3 env3 H3 := ((s1.trans s2).trans (s3.weak (fun _ z => z) fun x hx => List.mem_append_right _ hx)).weak (fun i hi => by
          rcases List.mem_append.mp hi with z | z
          · rcases List.mem_append.mp z with z | z <;> simp [z]
          · simp [z]) fun _ z => z
        have po2 : PostL W C i (Ma ++ (Mb ++ (Mc ++ [i]))) tf fs env σ H Q (match setdD dF.1 y x with
          | some (some d', z, G) => .ok (z, dF.2 ∘ G) (env3.set i (some (dF.2 d')))
          | some (none, z, G) => .ok (z, dF.2 ∘ G) env3
          | none => .err) := po1
        obtain ⟨df1, dF2⟩ := dF
        simp only at hdf
        subst hdf
        have Fo3' : Foc C H3 d v g1 (.dct g ks ds) (.ref ad) fp' g2 dF2 := Fo3
        cases e4 : setdD (.dct g ks ds) y x with
        | none => rw [e4] at po2; exact po2.elim
        | some r3 =>
          rw [e4] at po2
          obtain ⟨d', z, Gf⟩ := r3
          cases g with
          | m =>
            obtain ⟨ky, hky, e4⟩ := Option.bind_eq_some_iff.mp (show y.key.bind _ = some (d', z, Gf) from e4)
            split at e4
            case isFalse => cases e4
            rename_i hlen
            have r3 := Fo3'.here
            obtain ⟨ad', kvs, f1, f2, e5, ⟨hH, rfl⟩, hks, rs, _, rfl⟩ := r3
            cases e5
            have ey := key_of hky rw3
            have hl : kvs.length < sizeLine := by
              have : kvs.length = ks.length := by rw [← hks.1]; simp
              omega
            refine ⟨kvs, ky, hH, ey, hl, fun v0 hv0 => ?_, fun hv0 => ?_⟩
            · -- the key is there
              cases e6 : idxK ks ky with
              | none => rw [← hks.1] at e6; rw [idx_none e6] at hv0; cases hv0
              | some j =>
                rw [e6] at e4
                obtain ⟨z', hz', e4⟩ := Option.map_eq_some_iff.mp e4
                cases e4
                obtain ⟨w0, h1', fo, h2', k1, k2, k3⟩ := foc_dj hH hks rs e6 hz'
                rw [hv0] at k1; cases k1
                have po3 : PostL W C i (Ma ++ (Mb ++ (Mc ++ [i]))) tf fs env σ H Q (.ok (z, dF2 ∘ fun w => .dct .m ks (ds.set j w)) env3) := po2
                refine po3 v0 fs3 H3 d v (g1 ++ (ad :: h1')) fo (h2' ++ g2) (by simpa using G3'.drop) (st.weak (fun i hi => by
                  rcases List.mem_append.mp hi with z | z
                  · simp [z]
                  · rcases List.mem_append.mp z with z | z <;> simp [z]) fun _ z => z) hd3 hv ?_ (Fo3'.comp k3 (by rw [k2]; simp))
                rw [hf3, k2]; simp [List.append_assoc]
            · cases e6 : idxK ks ky with
              | some j =>
                rw [← hks.1] at e6
                obtain ⟨q1, q2⟩ := idx_val e6
                rw [q1, List.getElem?_eq_getElem q2] at hv0; cases hv0
              | none =>
                rw [e6] at e4
                cases e4
                have q' := e6
                rw [← hks.1] at q'
                have e1' := putK_new vx (idx_none q')
                have ndp := place_nd G3' hd3 hf3
                have nda : ad ∉ f2 ++ fx := by simp at ndp ⊢; exact ⟨ndp.1.1, ndp.1.2⟩
                have mu := Mono.upd (o := .dK (putK kvs ky vx)) hH trivial
                have kp : ∀ b, b ≠ ad → upd H3 ad (.dK (putK kvs ky vx)) b = H3 b := fun b hb => upd_ne hb
                have hks2 : (putK kvs ky vx).map (·.1) = ks ++ [ky] ∧ (ks ++ [ky]).Nodup := ⟨by rw [e1', List.map_append, hks.1]; rfl, List.nodup_append.mpr ⟨hks.2, by simp, fun x hx y hy e => by
                  simp at hy; subst hy; subst e; exact idx_not e6 hx⟩⟩
                have rs2 : Reps C (upd H3 ad (.dK (putK kvs ky vx))) (ds ++ [x]) ((putK kvs ky vx).map (·.2)) (f2 ++ fx) := by
                  have hs2 : (putK kvs ky vx).map (·.2) = kvs.map (·.2) ++ [vx] := by rw [e1', List.map_append]; rfl
                  rw [hs2]
                  exact reps_snoc (rs.keep (fun b hb => kp b fun z => nda (by subst z; simp [hb])) mu) (rx.keep (fun b hb => kp b fun z => nda (by subst z; simp [hb])) mu)
                have rD : Rep C (upd H3 ad (.dK (putK kvs ky vx))) (.dct .m (ks ++ [ky]) (ds ++ [x])) (.ref ad) (ad :: (f2 ++ fx)) := ⟨ad, putK kvs ky vx, [ad], _, rfl, ⟨upd_same, rfl⟩, hks2, rs2, .inl rfl, rfl⟩
                have ch : ∀ a o, H3 a = some o → a ∉ ([ad] ++ f2) → upd H3 ad (.dK (putK kvs ky vx)) a = some o := fun b o e hb => by rw [kp b fun z => hb (by simp [z])]; exact e
                obtain ⟨Gn, sn⟩ := place_put G3' hd3 hv hf3 Fo3' mu ch rD (by simpa using ndp) fun a ha => by
                  simp at ha
                  rcases ha with z | z | z <;> simp [z]
                have hidx : idxK (ks ++ [ky]) ky = some ds.length := by
                  have hl1 : ks.length = ds.length := by rw [reps_length rs, ← hks.1]; simp
                  rw [← hl1]; exact idx_snoc e6
                obtain ⟨w0, h1', fo, h2', k1, k2, k3⟩ := foc_dj (C := C) (z := x) upd_same hks2 rs2 hidx (by simp)
                have hw0 : w0 = vx := by
                  have := idx_val (kvs := putK kvs ky vx) (k := ky) (j := ds.length) (by rw [hks2.1]; exact hidx)
                  rw [e1'] at this k1
                  have hlk : kvs.length = ds.length := by rw [reps_length rs]; simp
                  rw [this.1] at k1
                  rw [← hlk] at k1
                  simpa using k1.symm
                subst hw0
                have FoN : Foc C (upd H3 ad (.dK (putK kvs ky w0))) (dF2 (.dct .m (ks ++ [ky]) (ds ++ [x]))) v g1 (.dct .m (ks ++ [ky]) (ds ++ [x])) (.ref ad) (ad :: (f2 ++ fx)) g2 dF2 := by
                  refine ⟨rD, fun H' d'' fp'' m4 k4 r4 => Fo3'.back H' d'' fp'' (mu.trans m4) (fun a ha => (k4 a ha).trans (kp a fun z => ?_)) r4⟩
                  subst z
                  have nd1 := (List.nodup_append.mp G3'.nd).1
                  have nd2 := (List.nodup_append.mp ((flat_get fs3 (G3'.lt hd3)).nodup_iff.mp nd1)).1
                  rw [hf3] at nd2
                  have pp : (g1 ++ ([a] ++ f2) ++ g2).Perm (([a] ++ f2) ++ (g1 ++ g2)) := by
                    rw [List.append_assoc]; exact List.perm_append_comm_assoc _ _ _
                  exact (List.nodup_append.mp (pp.nodup_iff.mp nd2)).2.2 a (by simp) a ha rfl
                have po3 : PostL W C i (Ma ++ (Mb ++ (Mc ++ [i]))) tf fs env σ H Q (.ok (x, dF2 ∘ fun w => .dct .m (ks ++ [ky]) ((ds ++ [x]).set ds.length w)) (env3.set i (some (dF2 (.dct .m (ks ++ [ky]) (ds ++ [x])))))) := po2
                have hli : i < env3.length := (List.getElem?_eq_some_iff.mp hd3).1
                refine po3 w0 _ _ (dF2 (.dct .m (ks ++ [ky]) (ds ++ [x]))) v (g1 ++ (ad :: h1')) fo (h2' ++ g2) Gn ((st.trans sn).weak (fun i hi => by
                  rcases List.mem_append.mp hi with z | z
                  · rcases List.mem_append.mp z with z | z
                    · simp [z]
                    · rcases List.mem_append.mp z with z | z <;> simp [z]
                  · simp [z]) fun _ z => z) (by simp [hli]) hv ?_ (FoN.comp k3 (by rw [k2]; simp))
                rw [getD_set fs3 i i _ (G3'.lt hd3), if_pos rfl, k2]; simp [List.append_assoc]
          | _ => cases e4
end
end VS

set_option maxRecDepth 100000
namespace VS
open PySem L2 SeqAt PySem.Spec PyProof.Rows
section
variable {X : Cx} {C : Ctx} {H H' : Hp}
theorem reps_split : ∀ {ds : List D} {vs : List V} {f : List Addr} (n : Nat), Reps C H ds vs f → ∃ g1 g2, f = g1 ++ g2 ∧ Reps C H (ds.take n) (vs.take n) g1 ∧ Reps C H (ds.drop n) (vs.drop n) g2
  | ds, vs, f, 0, r => ⟨[], f, by simp, ⟨rfl, rfl⟩, by simpa using r⟩
  | [], vs, f, n + 1, r => by obtain ⟨h1, h2⟩ := r; subst h1 h2; exact ⟨[], [], rfl, ⟨rfl, rfl⟩, ⟨rfl, rfl⟩⟩
  | d :: ds, vs, f, n + 1, ⟨v, vs', f1, f2, e, r, rs, e2⟩ => by
    obtain ⟨g1, g2, h1, h2, h3⟩ := reps_split n rs
    subst e e2 h1
    exact ⟨f1 ++ g1, g2, by simp, ⟨v, vs'.take n, f1, g1, by simp, r, h2, rfl⟩, by simpa using h3⟩
theorem reps_erase : ∀ {ds : List D} {vs : List V} {f : List Addr} {k : Nat} {x : D}, Reps C H ds vs f → ds[k]? = some x → ∃ w g1 h g2, vs[k]? = some w ∧ Rep C H x w h ∧ f = g1 ++ h ++ g2 ∧ Reps C H (ds.eraseIdx k) (vs.eraseIdx k) (g1 ++ g2)
  | [], vs, f, k, x, _, h => by simp at h
  | d :: ds, vs, f, 0, x, ⟨v, vs', f1, f2, e, r, rs, e2⟩, h => by
    simp at h; subst h; subst e
    exact ⟨v, [], f1, f2, by simp, r, by simpa using e2, by simpa using rs⟩
  | d :: ds, vs, f, k + 1, x, ⟨v, vs', f1, f2, e, r, rs, e2⟩, h => by
    subst e
    obtain ⟨w, g1, h', g2, h1, h2, h3, h4⟩ := reps_erase (k := k) rs (by simpa using h)
    exact ⟨w, f1 ++ g1, h', g2, by simpa using h1, h2, by rw [e2, h3]; simp, v, vs'.eraseIdx k, f1, g1 ++ g2, by simp, r, h4, by simp⟩
theorem reps_reverse : ∀ {ds : List D} {vs : List V} {f : List Addr}, Reps C H ds vs f → ∃ g, Reps C H ds.reverse vs.reverse g ∧ g.Perm f
  | [], vs, f, ⟨h1, h2⟩ => by subst h1 h2; exact ⟨[], ⟨rfl, rfl⟩, .refl _⟩
  | d :: ds, vs, f, ⟨v, vs', f1, f2, e, r, rs, e2⟩ => by
    subst e e2
    obtain ⟨g, h1, h2⟩ := reps_reverse rs
    refine ⟨g ++ f1, ?_, (h2.append_right f1).trans List.perm_append_comm⟩
    simp only [List.reverse_cons]
    exact reps_snoc h1 r
/-- a list of ours has other items from now on -/
theorem list_upd {ds' : List D} {vs vs' : List V} {a : Addr} {f f' fpa : List Addr} (hH : H a = some (.lst vs)) (nd : (a :: f ++ fpa).Nodup) (h : ∀ H', Mono H H' → (∀ b ∈ f ++ fpa, H' b = H b) → Reps C H' ds' vs' f') :
    Mono H (upd H a (.lst vs')) ∧ (∀ b o, H b = some o → b ∉ a :: f → upd H a (.lst vs') b = some o) ∧ Rep C (upd H a (.lst vs')) (.lst .m ds') (.ref a) (a :: f') ∧ ∀ b ∈ f ++ fpa, upd H a (.lst vs') b = H b := by
  have m := Mono.upd (o := .lst vs') hH trivial
  have nda : a ∉ f ++ fpa := (List.nodup_cons.mp (by simpa using nd)).1
  have kp : ∀ b ∈ f ++ fpa, upd H a (.lst vs') b = H b := fun b hb => upd_ne fun z => nda (z ▸ hb)
  refine ⟨m, fun b o e hb => ?_, ⟨a, vs', [a], f', rfl, ⟨upd_same, rfl⟩, h _ m kp, .inl rfl, rfl⟩, kp⟩
  rw [upd_ne fun z => hb (by simp [z])]; exact e

def mInsert : D → List D → Option (D × D)
  | .lst .m ds, [.int i, x] => if ds.length < sizeLine ∧ 0 ≤ i ∧ i < 2 ^ 63 then some (.lst .m (ds.take i.toNat ++ [x] ++ ds.drop i.toNat), .non) else none
  | _, _ => none
theorem mu_insert : MuOk X "list" (fun x vs H Q => ∃ (l : Addr) (xs : List V) (i : Int) (y : V), x = .ref l ∧ vs = [.int i, y] ∧ H l = some (.lst xs) ∧ xs.length < sizeLine ∧ 0 ≤ i ∧ i < 2 ^ 63 ∧ Q .non (upd H l (.lst (xs.take i.toNat ++ [y] ++ xs.drop i.toNat)))) kdL mInsert := by
  refine ⟨?_, ty_list⟩
  intro C H v d fp vs ds fpa Q d' res hC hF r ra nd h k
  unfold mInsert at h
  split at h
  case h_2 => cases h
  rename_i ds i x
  split at h
  case isFalse => cases h
  rename_i hz
  cases h
  obtain ⟨a, ws, f, rfl, hH, rs, rfl⟩ := rep_m r
  obtain ⟨vi, vx, f1, f2, rfl, ri, rx, rfl⟩ := reps2 ra
  obtain ⟨rfl, rfl⟩ := ri
  obtain ⟨g1, g2, rfl, h1, h2⟩ := reps_split i.toNat rs
  obtain ⟨m, ch, rp, _⟩ := list_upd (C := C) (ds' := ds.take i.toNat ++ [x] ++ ds.drop i.toNat) (vs' := ws.take i.toNat ++ [vx] ++ ws.drop i.toNat) (f := g1 ++ g2) (f' := g1 ++ f2 ++ g2) (fpa := f2) hH (by simpa using nd) fun H' m k =>
    reps_append (reps_snoc (h1.keep (fun b hb => k b (by simp [hb])) m) (rx.keep (fun b hb => k b (by simp [hb])) m)) (h2.keep (fun b hb => k b (by simp [hb])) m)
  refine ⟨a, ws, i, vx, rfl, rfl, hH, by rw [← reps_length rs]; exact hz.1, hz.2.1, hz.2.2, ?_⟩
  refine k _ .non (a :: (g1 ++ f2 ++ g2)) [] m ch rp ⟨rfl, rfl⟩ ?_ fun b hb => ?_
  · have p : (a :: (g1 ++ f2 ++ g2) ++ []).Perm (a :: (g1 ++ g2) ++ ([] ++ f2)) := by
      simp only [List.append_nil, List.nil_append, List.cons_append]
      refine List.Perm.cons a ?_
      rw [List.append_assoc, List.append_assoc]
      exact List.Perm.append_left g1 List.perm_append_comm
    exact p.nodup_iff.mpr nd
  · simp at hb ⊢
    rcases hb with z | z | z | z <;> simp [z]
def mPopAt : D → List D → Option (D × D)
  | .lst .m ds, [.int i] => if -(2 ^ 63) ≤ i ∧ i < 2 ^ 63 then (seqIndex? i ds.length).bind fun k => (ds[k]?).map fun x => (.lst .m (ds.eraseIdx k), x) else none
  | _, _ => none
theorem mu_popAt : MuOk X "list" rPopAt kdL mPopAt := by
  refine ⟨?_, ty_list⟩
  intro C H v d fp vs ds fpa Q d' res hC hF r ra nd h k
  unfold mPopAt at h
  split at h
  case h_2 => cases h
  rename_i ds i
  split at h
  case isFalse => cases h
  rename_i hz
  obtain ⟨j, hj, h⟩ := Option.bind_eq_some_iff.mp h
  obtain ⟨x, hx, h⟩ := Option.map_eq_some_iff.mp h
  cases h
  obtain ⟨a, ws, f, rfl, hH, rs, rfl⟩ := rep_m r
  obtain ⟨vi, rfl, ri⟩ := reps1 ra
  obtain ⟨rfl, rfl⟩ := ri
  obtain ⟨w, g1, hx', g2, k1, k2, rfl, k4⟩ := reps_erase rs hx
  obtain ⟨m, ch, rp, kp⟩ := list_upd (C := C) (ds' := ds.eraseIdx j) (vs' := ws.eraseIdx j) (f := g1 ++ hx' ++ g2) (f' := g1 ++ g2) (fpa := []) hH (by simpa using nd) fun H' m k =>
    k4.keep (fun b hb => k b (by simp at hb ⊢; rcases hb with z | z <;> simp [z])) m
  refine ⟨a, ws, i, j, w, rfl, rfl, hH, hz.1, hz.2, by rw [← reps_length rs]; exact hj, k1, ?_⟩
  refine k _ w (a :: (g1 ++ g2)) hx' m ch rp (k2.keep (fun b hb => kp b (by simp [hb])) m) ?_ fun b hb => ?_
  · have p : (a :: (g1 ++ g2) ++ hx').Perm (a :: (g1 ++ hx' ++ g2) ++ []) := by
      simp only [List.append_nil, List.cons_append]
      refine List.Perm.cons a ?_
      rw [List.append_assoc, List.append_assoc]
      exact List.Perm.append_left g1 List.perm_append_comm
    exact p.nodup_iff.mpr nd
  · simp at hb ⊢
    rcases hb with z | z | z | z <;> simp [z]
def mReverse : D → List D → Option (D × D)
  | .lst .m ds, [] => some (.lst .m ds.reverse, .non)
  | _, _ => none
theorem mu_reverse : MuOk X "list" rReverse kdL mReverse := by
  refine ⟨?_, ty_list⟩
  intro C H v d fp vs ds fpa Q d' res hC hF r ra nd h k
  unfold mReverse at h
  split at h
  case h_2 => cases h
  rename_i ds
  cases h
  obtain ⟨a, ws, f, rfl, hH, rs, rfl⟩ := rep_m r
  obtain ⟨rfl, rfl⟩ := ra
  obtain ⟨g, hg, pg⟩ := reps_reverse rs
  obtain ⟨m, ch, rp, kp⟩ := list_upd (C := C) (ds' := ds.reverse) (vs' := ws.reverse) (f := f) (f' := g) (fpa := []) hH (by simpa using nd) fun H' m k =>
    hg.keep (fun b hb => k b (by simpa using pg.mem_iff.mp hb)) m
  refine ⟨a, ws, rfl, rfl, hH, k _ .non (a :: g) [] m ch rp ⟨rfl, rfl⟩ ?_ fun b hb => ?_⟩
  · have p : (a :: g ++ []).Perm (a :: f ++ []) := by simpa using pg.cons a
    exact p.nodup_iff.mpr nd
  · simp at hb ⊢
    rcases hb with z | z
    · simp [z]
    · simp [pg.mem_iff.mp z]
def mClear : D → List D → Option (D × D)
  | .lst .m _, [] => some (.lst .m [], .non)
  | _, _ => none
theorem mu_clear : MuOk X "list" rClear kdL mClear := by
  refine ⟨?_, ty_list⟩
  intro C H v d fp vs ds fpa Q d' res hC hF r ra nd h k
  unfold mClear at h
  split at h
  case h_2 => cases h
  rename_i ds
  cases h
  obtain ⟨a, ws, f, rfl, hH, rs, rfl⟩ := rep_m r
  obtain ⟨rfl, rfl⟩ := ra
  obtain ⟨m, ch, rp, kp⟩ := list_upd (C := C) (ds' := []) (vs' := []) (f := f) (f' := []) (fpa := []) hH (by simpa using nd) fun H' m k => ⟨rfl, rfl⟩
  refine ⟨a, ws, rfl, rfl, hH, k _ .non [a] [] m ch rp ⟨rfl, rfl⟩ (by simp) fun b hb => ?_⟩
  simp at hb; simp [hb]
def mExtend : D → List D → Option (D × D)
  | .lst .m ds, [.lst .m es] => if ds.length + es.length ≤ sizeLine then some (.lst .m (ds ++ es), .non) else none
  | _, _ => none
theorem mu_extend : MuOk X "list" rExtend kdL mExtend := by
  refine ⟨?_, ty_list⟩
  intro C H v d fp vs ds fpa Q d' res hC hF r ra nd h k
  unfold mExtend at h
  split at h
  case h_2 => cases h
  rename_i ds es
  split at h
  case isFalse => cases h
  rename_i hz
  cases h
  obtain ⟨a, ws, f, rfl, hH, rs, rfl⟩ := rep_m r
  obtain ⟨ve, rfl, re⟩ := reps1 ra
  obtain ⟨b, zs, f2, rfl, hB, rz, rfl⟩ := rep_m re
  obtain ⟨m, ch, rp, kp⟩ := list_upd (C := C) (ds' := ds ++ es) (vs' := ws ++ zs) (f := f) (f' := f ++ f2) (fpa := b :: f2) hH (by simpa using nd) fun H' m k =>
    reps_append (rs.keep (fun b hb => k b (by simp [hb])) m) (rz.keep (fun b hb => k b (by simp [hb])) m)
  refine ⟨a, b, ws, zs, rfl, rfl, hH, hB, by rw [← reps_length rs, ← reps_length rz]; exact hz, k _ .non (a :: (f ++ f2)) [] m ch rp ⟨rfl, rfl⟩ ?_ fun c hc => ?_⟩
  · have p : (a :: f ++ b :: f2).Perm (b :: (a :: (f ++ f2) ++ [])) := by
      have := List.perm_middle (l₁ := a :: f) (l₂ := f2) (a := b)
      simpa using this
    exact (List.nodup_cons.mp (p.nodup_iff.mp nd)).2
  · simp at hc ⊢
    rcases hc with z | z | z <;> simp [z]
end
section
variable {X : Cx} {W : WX} {Ma Mb Mc V1 V2 V3 Rs R1 R2 R3 : List Nat} {e f a b c tg o : Expr} {es : List Expr} {ca cb cc : CE} {cs : CA} {ct : CT} {pos p apos cpos : Pos} {cl : CL} {i : Nat}
theorem so_insert (ho : SL X W i Ma o cl) (ha : SAO X W Mb (e :: es) cs)
    (hi : djB [i] Mb = true) (hbase : attributeBase o "insert" X.env (eval o X.env) = eval o X.env)
    (hfew : ((backTo cpos (starEach (e :: es) X.env)).all (fun x => !x.1) && (backToKw cpos (keywordEach [] X.env)).all (fun x => x.1.isSome)
      && decide ((e :: es).length + ([] : List Keyword).length + (if ([] : List Keyword).isEmpty then 0 else 1) < 30)) = true)
    (hline : (apos.endLine == cpos.line) = true) (hs : starEach (e :: es) X.env = (false, eval e X.env) :: starEach es X.env) (hplain : (backTo cpos (starEach es X.env)).any (·.1) = false) :
    SO X W (Ma ++ (Mb ++ [i])) (.Call (.Attribute o "insert" apos) (e :: es) [] cpos) (cMut i kdL mInsert cl cs) :=
  so_mut mu_insert PySem.F.plainAttrs_list PySem.F.slot_list_insert PySem.F.type_list_insert mt_insert ho ha hi hbase hfew hline hs hplain
theorem so_popAt (ho : SL X W i Ma o cl) (ha : SAO X W Mb (e :: es) cs)
    (hi : djB [i] Mb = true) (hbase : attributeBase o "pop" X.env (eval o X.env) = eval o X.env)
    (hfew : ((backTo cpos (starEach (e :: es) X.env)).all (fun x => !x.1) && (backToKw cpos (keywordEach [] X.env)).all (fun x => x.1.isSome)
      && decide ((e :: es).length + ([] : List Keyword).length + (if ([] : List Keyword).isEmpty then 0 else 1) < 30)) = true)
    (hline : (apos.endLine == cpos.line) = true) (hs : starEach (e :: es) X.env = (false, eval e X.env) :: starEach es X.env) (hplain : (backTo cpos (starEach es X.env)).any (·.1) = false) :
    SO X W (Ma ++ (Mb ++ [i])) (.Call (.Attribute o "pop" apos) (e :: es) [] cpos) (cMut i kdL mPopAt cl cs) :=
  so_mut mu_popAt PySem.F.plainAttrs_list PySem.F.slot_list_pop PySem.F.type_list_pop mt_popAt ho ha hi hbase hfew hline hs hplain
theorem so_extend (ho : SL X W i Ma o cl) (ha : SAO X W Mb (e :: es) cs)
    (hi : djB [i] Mb = true) (hbase : attributeBase o "extend" X.env (eval o X.env) = eval o X.env)
    (hfew : ((backTo cpos (starEach (e :: es) X.env)).all (fun x => !x.1) && (backToKw cpos (keywordEach [] X.env)).all (fun x => x.1.isSome)
      && decide ((e :: es).length + ([] : List Keyword).length + (if ([] : List Keyword).isEmpty then 0 else 1) < 30)) = true)
    (hline : (apos.endLine == cpos.line) = true) (hs : starEach (e :: es) X.env = (false, eval e X.env) :: starEach es X.env) (hplain : (backTo cpos (starEach es X.env)).any (·.1) = false) :
    SO X W (Ma ++ (Mb ++ [i])) (.Call (.Attribute o "extend" apos) (e :: es) [] cpos) (cMut i kdL mExtend cl cs) :=
  so_mut mu_extend PySem.F.plainAttrs_list PySem.F.slot_list_extend PySem.F.type_list_extend mt_extend ho ha hi hbase hfew hline hs hplain
theorem so_pop0 (ho : SL X W i Ma o cl) (hbase : attributeBase o "pop" X.env (eval o X.env) = eval o X.env) (hline : (apos.endLine == cpos.line) = true) :
    SO X W (Ma ++ ([] ++ [i])) (.Call (.Attribute o "pop" apos) [] [] cpos) (cMut i kdL mPop cl cNil) :=
  so_mut0 mu_pop PySem.F.plainAttrs_list PySem.F.slot_list_pop PySem.F.type_list_pop mt_pop ho hbase hline
theorem so_reverse (ho : SL X W i Ma o cl) (hbase : attributeBase o "reverse" X.env (eval o X.env) = eval o X.env) (hline : (apos.endLine == cpos.line) = true) :
    SO X W (Ma ++ ([] ++ [i])) (.Call (.Attribute o "reverse" apos) [] [] cpos) (cMut i kdL mReverse cl cNil) :=
  so_mut0 mu_reverse PySem.F.plainAttrs_list PySem.F.slot_list_reverse PySem.F.type_list_reverse mt_reverse ho hbase hline
theorem so_clear (ho : SL X W i Ma o cl) (hbase : attributeBase o "clear" X.env (eval o X.env) = eval o X.env) (hline : (apos.endLine == cpos.line) = true) :
    SO X W (Ma ++ ([] ++ [i])) (.Call (.Attribute o "clear" apos) [] [] cpos) (cMut i kdL mClear cl cNil) :=
  so_mut0 mu_clear PySem.F.plainAttrs_list PySem.F.slot_list_clear PySem.F.type_list_clear mt_clear ho hbase hline
end
end VS

set_option maxRecDepth 100000
namespace VS
open PySem L2 SeqAt PySem.Spec PyProof.Rows
/-! ### a tree as plain data -/
mutual
def D.py : D → Option PyData
  | .non => some .none
  | .bl b => some (.bool b)
  | .int i => some (.int i)
  | .str s => some (.str s)
  | .tup ds => (pys ds).map .tuple
  | .lst _ ds => (pys ds).map .list
  | _ => none
def pys : List D → Option (List PyData)
  | [] => some []
  | d :: ds => d.py.bind fun y => (pys ds).map fun ys => y :: ys
end
def pyO (d : D) : PyData := d.py.getD .none
section
variable {X : Cx} {C : Ctx} {H H' : Hp} {pins : List (Addr × Obj)} {σ : L2.St} {s : Shared}
mutual
theorem reads_rep (I : Inv X pins σ H s) (hC : C.At X) (hF : Fr C H) : ∀ {d : D} {y : PyData} {v : V} {fp : List Addr} {u : Value}, d.py = some y → Rep C H d v fp → RelV v u → ∃ as, Reads s.heap u y as ∧ ∀ a ∈ as, a < s.heap.objs.size
  | .non, y, v, fp, u, h, ⟨e, _⟩, r => by cases h; subst e; cases (show u = Value.none from r); exact ⟨[], .none, fun _ z => nomatch z⟩
  | .bl b, y, v, fp, u, h, ⟨e, _⟩, r => by cases h; subst e; cases (show u = Value.bool b from r); exact ⟨[], .bool b, fun _ z => nomatch z⟩
  | .int i, y, v, fp, u, h, ⟨e, _⟩, r => by cases h; subst e; obtain ⟨t, rfl⟩ := (show ∃ t, u = Value.int i t from r); exact ⟨[], .int i t, fun _ z => nomatch z⟩
  | .str z, y, v, fp, u, h, ⟨e, _⟩, r => by cases h; subst e; obtain ⟨t, rfl⟩ := (show ∃ t, u = Value.str z t from r); exact ⟨[], .str z t, fun _ z => nomatch z⟩
  | .tup ds, y, v, fp, u, h, rp, r => by
    obtain ⟨ys, hy, rfl⟩ := Option.map_eq_some_iff.mp h
    obtain ⟨a, vs, rfl, q, rs⟩ := rep_tup hC rp
    cases (show u = Value.ref a from r)
    obtain ⟨its, rv, ⟨o, e, hc, n, hd⟩, _⟩ := I.tuple q
    obtain ⟨as, h1, h2⟩ := readsAll_rep I hC hF hy rs rv
    exact ⟨as, .tuple e hc hd (by simpa using h1), h2⟩
  | .lst g ds, y, v, fp, u, h, rp, r => by
    obtain ⟨ys, hy, rfl⟩ := Option.map_eq_some_iff.mp h
    obtain ⟨a, vs, f, rfl, q, rs⟩ := rep_list hC hF rp
    cases (show u = Value.ref a from r)
    obtain ⟨its, rv, ⟨o, n, e, hc, hdi, hd⟩, _⟩ := I.list q
    obtain ⟨as, h1, h2⟩ := readsAll_rep I hC hF hy rs rv
    exact ⟨a :: as, .list e hc hd (by simpa using h1), fun b hb => by
      rcases List.mem_cons.mp hb with z | z
      · rw [z]; exact Heap.lt_size e
      · exact h2 b z⟩
  | .ty _, _, _, _, _, h, _, _ => by cases h
  | .dct _ _ _, _, _, _, _, h, _, _ => by cases h
  | .obj _ _ _ _, _, _, _, _, h, _, _ => by cases h
theorem readsAll_rep (I : Inv X pins σ H s) (hC : C.At X) (hF : Fr C H) : ∀ {ds : List D} {ys : List PyData} {vs : List V} {fp : List Addr} {us : List Value}, pys ds = some ys → Reps C H ds vs fp → Vals vs us → ∃ as, ReadsAll s.heap us ys as ∧ ∀ a ∈ as, a < s.heap.objs.size
  | [], ys, vs, fp, us, h, ⟨e, _⟩, r => by cases h; subst e; cases r; exact ⟨[], .nil, fun _ z => nomatch z⟩
  | d :: ds, ys, vs, fp, us, h, ⟨v, vs', f1, f2, e, rd, rs, _⟩, r => by
    obtain ⟨y, hy, h⟩ := Option.bind_eq_some_iff.mp h
    obtain ⟨ys', hys, rfl⟩ := Option.map_eq_some_iff.mp h
    subst e
    cases r with
    | cons r1 r2 =>
      obtain ⟨as, h1, h2⟩ := reads_rep I hC hF hy rd r1
      obtain ⟨bs, h3, h4⟩ := readsAll_rep I hC hF hys rs r2
      exact ⟨as ++ bs, .cons h1 h3, fun a ha => (List.mem_append.mp ha).elim (h2 a) (h4 a)⟩
end
theorem pys_map : ∀ {ds : List D} {ys : List PyData}, pys ds = some ys → ys = ds.map pyO
  | [], ys, h => by cases h; rfl
  | d :: ds, ys, h => by
    obtain ⟨y, hy, h⟩ := Option.bind_eq_some_iff.mp h
    obtain ⟨ys', hys, rfl⟩ := Option.map_eq_some_iff.mp h
    simp [pyO, hy, pys_map hys]
theorem pys_mem : ∀ {ds : List D} {ys : List PyData} {d : D}, pys ds = some ys → d ∈ ds → d.py = some (pyO d)
  | d0 :: ds, ys, d, h, hd => by
    obtain ⟨y, hy, h⟩ := Option.bind_eq_some_iff.mp h
    obtain ⟨ys', hys, rfl⟩ := Option.map_eq_some_iff.mp h
    rcases List.mem_cons.mp hd with z | z
    · subst z; simp [pyO, hy]
    · exact pys_mem hys z
theorem each_rel : ∀ {ds : List D} {vs : List V} {us : List Value}, ds.length = vs.length → Vals vs us → PySem.W.EachIs (fun (u : Value) (b : D × V) => RelV b.2 u) us (ds.zip vs)
  | [], [], us, _, r => by cases r; exact .nil
  | d :: ds, v :: vs, us, h, r => by
    cases r with
    | cons r1 r2 => exact .cons r1 (each_rel (by simpa using h) r2)
theorem each_reads (I : Inv X pins σ H s) (hC : C.At X) (hF : Fr C H) : ∀ {ds : List D} {ys : List PyData} {vs : List V} {fp : List Addr} {us : List Value}, pys ds = some ys → Reps C H ds vs fp → Vals vs us →
    PySem.W.EachIs (fun (u : Value) (b : D × V) => ∃ as, Reads s.heap u (pyO b.1) as ∧ ∀ a ∈ as, a < s.heap.objs.size) us (ds.zip vs)
  | [], ys, vs, fp, us, h, ⟨e, _⟩, r => by subst e; cases r; exact .nil
  | d :: ds, ys, vs, fp, us, h, ⟨v, vs', f1, f2, e, rd, rs, _⟩, r => by
    obtain ⟨y, hy, h⟩ := Option.bind_eq_some_iff.mp h
    obtain ⟨ys', hys, rfl⟩ := Option.map_eq_some_iff.mp h
    subst e
    cases r with
    | cons r1 r2 =>
      obtain ⟨as, h1, h2⟩ := reads_rep I hC hF hy rd r1
      exact .cons ⟨as, by simpa [pyO, hy] using h1, h2⟩ (each_reads I hC hF hys rs r2)
theorem each_vals : ∀ {us : List Value} {bs : List (D × V)}, PySem.W.EachIs (fun (u : Value) (b : D × V) => RelV b.2 u) us bs → Vals (bs.map (·.2)) us
  | [], [], _ => .nil
  | u :: us, b :: bs, h => by
    cases h with
    | cons h1 h2 => exact .cons h1 (each_vals h2)
theorem reps_of_pairs : ∀ {bs : List (D × V)}, (∀ b ∈ bs, Rep C H b.1 b.2 []) → Reps C H (bs.map (·.1)) (bs.map (·.2)) []
  | [], _ => ⟨rfl, rfl⟩
  | b :: bs, h => ⟨b.2, bs.map (·.2), [], [], rfl, h b (by simp), reps_of_pairs fun c hc => h c (by simp [hc]), rfl⟩
theorem pairs_of_reps : ∀ {ds : List D} {vs : List V}, Reps C H ds vs [] → ∀ b ∈ ds.zip vs, Rep C H b.1 b.2 []
  | [], vs, _, b, hb => by simp at hb
  | d :: ds, vs, ⟨v, vs', f1, f2, e, r, rs, e2⟩, b, hb => by
    subst e
    obtain ⟨z1, z2⟩ := List.append_eq_nil_iff.mp e2.symm
    subst z1 z2
    rw [List.zip_cons_cons] at hb
    rcases List.mem_cons.mp hb with z | z
    · subst z; exact r
    · exact pairs_of_reps rs b z
end

/-! ### sorted(..) -/
def leD (a b : D) : Bool := PySem.W.dataLe false pyO a b
def alikeB (ds : List D) : Bool := ds.all fun d => ds.all fun e => PySem.W.alike (pyO d) (pyO e)
def sortableB (ds : List D) : Bool := (ds.all fun d => match pyO d with
  | .tuple (_ :: _) => true
  | _ => false) || ds.all fun d => match pyO d with
  | .none => false
  | .tuple _ => false
  | _ => true
def shallowB (ds : List D) : Bool := ds.all fun d => decide ((pyO d).depth ≤ 20)
def sortOk (ds : List D) : Bool := (pys ds).isSome && imms ds && alikeB ds && sortableB ds && shallowB ds && decide (ds.length ≤ sizeLine)
theorem alikeB_ok {ds : List D} (h : alikeB ds = true) : PySem.W.AllAlike (ds.map pyO) := by
  intro x hx y hy
  obtain ⟨d, hd, rfl⟩ := List.mem_map.mp hx
  obtain ⟨e, he, rfl⟩ := List.mem_map.mp hy
  exact List.all_eq_true.mp (List.all_eq_true.mp h d hd) e he
theorem sortableB_ok {ds : List D} (h : sortableB ds = true) : PySem.W.Sortable (ds.map pyO) := by
  rcases Bool.or_eq_true_iff.mp h with h | h
  · left
    intro x hx
    obtain ⟨d, hd, rfl⟩ := List.mem_map.mp hx
    have := List.all_eq_true.mp h d hd
    split at this
    · rename_i y r e; exact ⟨y, r, e⟩
    · cases this
  · right
    intro x hx
    obtain ⟨d, hd, rfl⟩ := List.mem_map.mp hx
    have := List.all_eq_true.mp h d hd
    split at this
    · cases this
    · cases this
    · rename_i h1 h2
      exact ⟨h1, fun xs e => h2 xs e⟩
section
variable {X : Cx} {C : Ctx} {H H' : Hp} {pins : List (Addr × Obj)} {σ : L2.St} {s : Shared}
theorem zip_fst {α β : Type} : ∀ {xs : List α} {ys : List β}, xs.length = ys.length → (xs.zip ys).map (·.1) = xs
  | [], [], _ => rfl
  | x :: xs, y :: ys, h => by simp [zip_fst (xs := xs) (ys := ys) (by simpa using h)]
/-- sorted(x), from what x is collected to -/
theorem sorted_by (I : Inv X pins σ H s) {k : Nat} (hr : Room k X.A) (hC : C.At X) (hF : Fr C H) {u : Value} {ds : List D} {vs : List V} {Q : VK} (hok : sortOk ds = true) (rs : Reps C H ds vs [])
    (hcoll : ∀ {R : List Value → Shared → Prop} {E : Value → Shared → Prop}, (∀ h' tk us, (∀ b o, s.heap.get? b = some o → h'.get? b = some o) → Vals vs us → R us { s with heap := h', toks := tk }) → wpAny (model X.prog X.w) X.A.in1 (collect u) R E s)
    (hq : ∀ p, H p = none → ∀ vs', Reps C H (ds.mergeSort leD) vs' [] → Q (.ref p) (upd H p (.lst vs'))) : wpAny (model X.prog X.w) X.A (call (.builtin "sorted") [u]) (EP X pins σ Q) X.xe s := by
  obtain ⟨h6, hlen⟩ := Bool.and_eq_true_iff.mp hok
  obtain ⟨h5, hsh⟩ := Bool.and_eq_true_iff.mp h6
  obtain ⟨h4, hso⟩ := Bool.and_eq_true_iff.mp h5
  obtain ⟨h3, hal⟩ := Bool.and_eq_true_iff.mp h4
  obtain ⟨h2, hi⟩ := Bool.and_eq_true_iff.mp h3
  obtain ⟨ys, hys⟩ := Option.isSome_iff_exists.mp h2
  have hlen := of_decide_eq_true hlen
  have lv : ds.length = vs.length := reps_length rs
  refine Calls.call_function_entry PyProof.Rows.kind_sorted PyProof.Rows.plain_sorted PyProof.Rows.entry_sorted (PyProof.Rows.args_sorted1 _) ?_
  unfold Builtin.«sorted»
  refine wpAny_bind (m := checkCount "sorted" 1 1 _) (wpAny_pure ?_)
  refine wpAny_bind (hcoll fun h' tk us hk rv => ?_)
  have lu : us.length = ds.length := by rw [lv, rv.length]
  have I1 : Inv X pins σ H { s with heap := h', toks := tk } := I.kept hk
  have er0 := each_reads I1 hC hF hys rs rv
  refine wpAny_bind (wpAny_newList ?_ (by rw [lu]; exact hlen))
  have hoL : (h'.push (seqObj "list" us.toArray 0)).get? h'.objs.size = some (seqObj "list" us.toArray 0) := Heap.get?_push_size _ rfl
  show wpAny _ _ _ _ _ { s with heap := h'.push (seqObj "list" us.toArray 0), toks := tk }
  have er1 : PySem.W.EachIs (fun (u : Value) (b : D × V) => ∃ as, Reads (h'.push (seqObj "list" us.toArray 0)) u (pyO b.1) as ∧ h'.objs.size ∉ as) us (ds.zip vs) :=
    er0.mono fun u b ⟨as, r, l⟩ => ⟨as, PyProof.Rows.Reads.keeps (fun _ _ e => Heap.get?_push_of_some _ e) r, fun z => Nat.lt_irrefl _ (l _ z)⟩
  have hz1 : (ds.zip vs).map (fun b => pyO b.1) = ds.map pyO := by
    have e := congrArg (List.map pyO) (zip_fst lv)
    rw [List.map_map] at e; exact e
  have hal' : PySem.W.AllAlike ((ds.zip vs).map (fun b => pyO b.1)) := by rw [hz1]; exact alikeB_ok hal
  have hso' : PySem.W.Sortable ((ds.zip vs).map (fun b => pyO b.1)) := by rw [hz1]; exact sortableB_ok hso
  have er2 : PySem.W.EachIs (fun (u : Value) (b : D × V) => ∃ as, Reads (PySem.W.sortingHeap (h'.push (seqObj "list" us.toArray 0)) h'.objs.size us) u (pyO b.1) as) us (ds.zip vs) :=
    PySem.W.each_keepBut (h' := PySem.W.sortingHeap (h'.push (seqObj "list" us.toArray 0)) h'.objs.size us) (fun _ _ hb q => PySem.W.sortingHeap_old hb q) (fun o q => by rw [hoL] at q; rw [← Option.some.inj q]) hal' er1
  have lz : (ds.zip vs).length = us.length := by simp; omega
  have hun : ∀ b ∈ ds.zip vs, X.A.in1.in1.units + (pyO b.1).depth < cLine := fun b hb => by
    have h1 := of_decide_eq_true (List.all_eq_true.mp hsh b.1 (List.of_mem_zip hb).1)
    have := hr.units
    show X.A.units + 1 + 1 + _ < _
    omega
  have er3 := er1.mono fun u b ⟨as, r, l⟩ => (⟨as, r⟩ : ∃ as, Reads (h'.push (seqObj "list" us.toArray 0)) u (pyO b.1) as)
  have eo := PySem.W.sortVals_data (R := fun (u : Value) (b : D × V) => RelV b.2 u) false (each_rel lv rv) er2 hal'
  refine wpAny_bind (wpAny_holding (wpAny_call_entry PyProof.Rows.slot_list_sort ⟨_, hoL, rfl⟩ PyProof.Rows.entry_list_sort
    (PySem.W.list_sort_vals (κ := PySem.W.dataKind (PySem.W.sortingHeap (h'.push (seqObj "list" us.toArray 0)) h'.objs.size us) ((ds.zip vs).map (fun b => pyO b.1))) (s := { s with heap := h'.push (seqObj "list" us.toArray 0), toks := tk }) hoL
      (PySem.W.SortsAt.data (s := { s with heap := PySem.W.sortingHeap (h'.push (seqObj "list" us.toArray 0)) h'.objs.size us, toks := tk }) (PySem.W.each_map (R := fun v d => ∃ as, Reads (PySem.W.sortingHeap (h'.push (seqObj "list" us.toArray 0)) h'.objs.size us) v d as) (fun b : D × V => pyO b.1) er2) hal' hso' (PySem.W.bound_map hun)) (by rw [lu]; exact hlen) ⟨.none, rfl, ?_⟩)
    (PyProof.Rows.args_list_sort _)))
  have hout := each_vals eo
  have hperm := List.mergeSort_perm (ds.zip vs) (PySem.W.dataLe false fun b : D × V => pyO b.1)
  have hreps : Reps C H (((ds.zip vs).mergeSort (PySem.W.dataLe false fun b : D × V => pyO b.1)).map (·.1)) (((ds.zip vs).mergeSort (PySem.W.dataLe false fun b : D × V => pyO b.1)).map (·.2)) [] :=
    reps_of_pairs fun b hb => pairs_of_reps rs b (hperm.mem_iff.mp hb)
  have hms : ((ds.zip vs).mergeSort (PySem.W.dataLe false fun b : D × V => pyO b.1)).map (·.1) = ds.mergeSort leD := by
    have hm := List.map_mergeSort (r := PySem.W.dataLe false fun b : D × V => pyO b.1) (s := leD) (f := fun b : D × V => b.1) (l := ds.zip vs) (fun a _ b _ => rfl)
    rw [hm, zip_fst lv]
  rw [hms] at hreps
  obtain ⟨e', he'⟩ := PyProof.Rows.sortedHeap_at (vs := us) (out := (PySem.W.sortVals (PySem.W.dataKind (PySem.W.sortingHeap (h'.push (seqObj "list" us.toArray 0)) h'.objs.size us) ((ds.zip vs).map (fun b => pyO b.1))) false us us).toArray) hoL
  have hl2 : (((ds.zip vs).mergeSort (PySem.W.dataLe false fun b : D × V => pyO b.1)).map (·.2)).length ≤ sizeLine := by
    rw [List.length_map, hperm.length_eq, lz, lu]; exact hlen
  refine wpAny_pure ⟨_, rfl, .ref h'.objs.size, upd H h'.objs.size (.lst (((ds.zip vs).mergeSort (PySem.W.dataLe false fun b : D × V => pyO b.1)).map (·.2))), I1.laid (t' := tk) (fun b u e => ?_) (Nat.le_refl _)
    (show ObjOk X.prog X.w _ _ _ (.lst _) from ⟨hl2, _, e', hout, he'⟩), rfl, hq _ (I1.hok.fresh (Nat.le_refl _)) _ hreps⟩
  have hb : b < h'.objs.size := Heap.lt_size e
  rw [PyProof.Rows.sortedHeap_old (Nat.ne_of_lt hb) (by rw [size_push']; exact Nat.lt_succ_of_lt hb)]
  exact Heap.get?_push_of_some _ e
end
end VS

set_option maxRecDepth 100000
namespace VS
open PySem L2 SeqAt PySem.Spec PyProof.Rows
section
variable {X : Cx} {C : Ctx} {H H' : Hp} {pins : List (Addr × Obj)} {σ : L2.St} {s : Shared}
def keyD : Key → D
  | .inl i => .int i
  | .inr s => .str s
theorem reps_keys {C : Ctx} {H : Hp} : ∀ ks : List Key, Reps C H (ks.map keyD) (ks.map kV) []
  | [] => ⟨rfl, rfl⟩
  | .inl i :: ks => ⟨.int i, ks.map kV, [], [], rfl, ⟨rfl, rfl⟩, reps_keys ks, rfl⟩
  | .inr i :: ks => ⟨.str i, ks.map kV, [], [], rfl, ⟨rfl, rfl⟩, reps_keys ks, rfl⟩
theorem imms_keys : ∀ ks : List Key, imms (ks.map keyD) = true
  | [] => rfl
  | .inl i :: ks => by simp [keyD, imms_keys ks]
  | .inr i :: ks => by simp [keyD, imms_keys ks]
/-- what a thing is collected to -/
def collD : D → Option (List D)
  | .lst _ ds => some ds
  | .tup ds => some ds
  | .dct _ ks _ => some (ks.map keyD)
  | _ => none
def pSortedG : List D → Option D
  | [d] => (collD d).bind fun ds => if sortOk ds then some (.lst .m (ds.mergeSort leD)) else none
  | _ => none
theorem sortOk_imms {ds : List D} (h : sortOk ds = true) : imms ds = true := by
  unfold sortOk at h
  simp only [Bool.and_eq_true] at h
  exact h.1.1.1.1.2
theorem imms_perm {ds es : List D} (h : ds.Perm es) (hi : imms ds = true) : imms es = true := by
  rw [imms_all, List.all_eq_true] at hi ⊢
  exact fun d hd => hi d (h.mem_iff.mpr hd)
theorem Comes.lst' {C : Ctx} {H : Hp} {es : List D} {Q : VK} (k : Comes C H (.lst .m es) Q) {vs : List V} (rs : Reps C H es vs []) {p : Addr} (hp : H p = none) : Q (.ref p) (upd H p (.lst vs)) :=
  k (.ref p) _ [p] (Le.new hp) ⟨p, vs, [p], [], rfl, ⟨upd_same, rfl⟩, rs.le (Le.new hp), .inl rfl, rfl⟩ (by simp) (by simpa using hp)
theorem od_sortedG {k : Nat} (hr : Room k X.A) (hcalm : X.calm = true) : ODL X (.builtin "sorted") pSortedG := by
  intro pins s σ H xs us Q I rv ⟨C, ds0, fx, d, hC, hF, rs, e, kk⟩
  unfold pSortedG at e
  split at e
  case h_2 => cases e
  rename_i d0
  obtain ⟨v, rfl, r⟩ := reps1 rs
  obtain ⟨u, rfl, ru⟩ := vals1 rv
  obtain ⟨ds, hco, e⟩ := Option.bind_eq_some_iff.mp e
  split at e
  case isFalse => cases e
  rename_i hok
  cases e
  have hi := sortOk_imms hok
  have fin : ∀ p, H p = none → ∀ vs', Reps C H (ds.mergeSort leD) vs' [] → Q (.ref p) (upd H p (.lst vs')) := fun p hp vs' rs' => kk.lst' rs' hp
  cases d0 with
  | lst g es =>
    cases hco
    obtain ⟨a, vs, f, rfl, q, rz⟩ := rep_list hC hF r
    have z := rz.imm hi
    subst z
    cases (show u = Value.ref a from ru)
    obtain ⟨its, rv2, ⟨o, n, ho, hc, hdi, hd⟩, hz⟩ := I.list q
    refine sorted_by I hr hC hF hok rz (fun hR => ?_) fin
    exact wpAny_collect_seq a (T := "list") (.inl rfl) ho hc hd (fun h' hk => hR h' s.toks its hk rv2) (by rw [List.size_toArray, ← rv2.length]; exact hz)
  | tup es =>
    cases hco
    obtain ⟨a, vs, rfl, q, rz⟩ := rep_tup hC r
    have z := rz.imm hi
    subst z
    cases (show u = Value.ref a from ru)
    obtain ⟨its, rv2, ⟨o, ho, hc, n, hd⟩, hz⟩ := I.tuple q
    refine sorted_by I hr hC hF hok rz (fun hR => ?_) fin
    exact wpAny_collect_seq a (T := "tuple") (.inr rfl) ho hc hd (fun h' hk => hR h' s.toks its hk rv2) (by rw [List.size_toArray, ← rv2.length]; exact hz)
  | dct g ks es =>
    cases hco
    obtain ⟨a, kvs, f1, f2, rfl, hd, hks, _, _⟩ := rep_dct hF r
    cases (show u = Value.ref a from ru)
    obtain ⟨z, lo, vs, rel, dd⟩ := dk_rd I.hok hd
    obtain ⟨ep, hat⟩ := dd.dictAt
    have h16 : vs.length ≤ sizeLine := by rw [← rel.length]; exact z
    have hkv : kvs.map (·.1) = vs.map (·.1) := rel.keys
    have hmap : vs.map (fun p => kV p.1) = ks.map kV := by
      rw [← hks, hkv, List.map_map]; rfl
    refine sorted_by I hr hC hF hok (reps_keys ks) (fun hR => ?_) fin
    refine PySem.W.kdu_collect (PySem.W.kdl_dict (knd := mixKind X.prog X.w) (kvs := vs) (ep := ep) lo) (I.ok.hd hcalm) hat h16 fun h' tk acc hk hacc => hR h' tk _ hk ?_
    rw [← hmap]
    exact keys_at (by rw [Array.length_toList]; exact hacc.1) fun j v e => hacc.2 j v (by rw [← Array.getElem?_toList]; exact e)
  | _ => cases hco

/-! ### < of data -/
def notNone : PyData → Bool
  | .none => false
  | _ => true
def pCmpD (f : PyData → PyData → Bool) : D → D → Option D := fun x y => match x.py, y.py with
  | some a, some b => if PySem.W.alike a b ∧ decide (a.depth ≤ 20) = true ∧ notNone a = true then some (.bl (f a b)) else none
  | _, _ => none
theorem od_cmpD {op : CmpOp} {f : PyData → PyData → Bool} {k : Nat} (hr : Room k X.A)
    (h : ∀ {A : Around} {E : Value → Shared → Prop} {s : Shared} {a b : Value} {da db : PyData} {as bs : List Addr} {Q : Value → Shared → Prop}, Reads s.heap a da as → Reads s.heap b db bs → PySem.W.alike da db = true → da ≠ .none → A.units + min da.depth db.depth < cLine → Q (.bool (f da db)) s → wpAny (model X.prog X.w) A (compareOp op a b) Q E s) :
    OD2 X (compareOp op) (pCmpD f) := by
  intro pins s σ H x y v u Q I rx ry ⟨C, dx, dy, fx, fy, d, hC, hF, r1, r2, e, kk⟩
  unfold pCmpD at e
  split at e
  case h_2 => cases e
  rename_i a b ha hb
  split at e
  case isFalse => cases e
  rename_i hc
  cases e
  obtain ⟨as, ra, _⟩ := reads_rep I hC hF ha r1 rx
  obtain ⟨bs, rb, _⟩ := reads_rep I hC hF hb r2 ry
  refine h ra rb hc.1 (fun z => by subst z; exact absurd hc.2.2 (by simp [notNone])) (by
    have h1 := of_decide_eq_true hc.2.1
    have := hr.units
    have : min a.depth b.depth ≤ a.depth := Nat.min_le_left _ _
    omega) ⟨.bl _, H, I, rfl, kk.here ⟨rfl, rfl⟩⟩
def pLtG : D → D → Option D := orP2 pLtI (pCmpD fun a b => PySem.W.dataLt a b)
def pGtG : D → D → Option D := orP2 pGtI (pCmpD fun a b => PySem.W.dataLt b a)
def pLeG : D → D → Option D := orP2 pLeI (pCmpD fun a b => !PySem.W.dataLt b a)
def pGeG : D → D → Option D := orP2 pGeI (pCmpD fun a b => !PySem.W.dataLt a b)
theorem od_ltG {k : Nat} (hr : Room k X.A) : OD2 X (compareOp .Lt) pLtG := od_ltI.or (od_cmpD hr fun a b c d e f => PySem.W.lt_data a b c d e f)
theorem od_gtG {k : Nat} (hr : Room k X.A) : OD2 X (compareOp .Gt) pGtG := od_gtI.or (od_cmpD hr fun a b c d e f => PySem.W.gt_data a b c d e f)
theorem od_leG {k : Nat} (hr : Room k X.A) : OD2 X (compareOp .LtE) pLeG := od_leI.or (od_cmpD hr fun a b c d e f => PySem.W.le_data a b c d e f)
theorem od_geG {k : Nat} (hr : Room k X.A) : OD2 X (compareOp .GtE) pGeG := od_geI.or (od_cmpD hr fun a b c d e f => PySem.W.ge_data a b c d e f)

/-! ### list(d), dict(d) -/
def pListG : List D → Option D
  | [.dct _ ks _] => some (.lst .m (ks.map keyD))
  | ds => pList ds
theorem od_listG (hcalm : X.calm = true) : ODL X (.type "list") pListG := by
  intro pins s σ H xs us Q I rv ⟨C, ds0, fx, d, hC, hF, rs, e, kk⟩
  unfold pListG at e
  split at e
  · rename_i g ks ds
    cases e
    obtain ⟨v, rfl, r⟩ := reps1 rs
    obtain ⟨a, kvs, f1, f2, rfl, hd, hks, _, _⟩ := rep_dct hF r
    refine call_listD hcalm pins s σ H _ us Q I rv ⟨a, kvs, rfl, hd, fun p hp => ?_⟩
    have : (kvs.map fun kv => kV kv.1) = ks.map kV := by rw [← hks, List.map_map]; rfl
    rw [this]
    exact kk.lst' (reps_keys ks) hp
  · exact od_list pins s σ H xs us Q I rv ⟨C, ds0, fx, d, hC, hF, rs, e, kk⟩
def pDictG : List D → Option D
  | [.dct _ ks ds] => if imms ds then some (.dct .m ks ds) else none
  | ds => pDictP ds
theorem od_dictG (hcalm : X.calm = true) : ODL X (.type "dict") pDictG := by
  intro pins s σ H xs us Q I rv ⟨C, ds0, fx, d, hC, hF, rs, e, kk⟩
  unfold pDictG at e
  split at e
  · rename_i g ks ds
    split at e
    case isFalse => cases e
    rename_i hi
    cases e
    obtain ⟨v, rfl, r⟩ := reps1 rs
    obtain ⟨a, kvs, f1, f2, rfl, n, hks, rz, _, _⟩ := r
    have z := rz.imm hi
    subst z
    have hd : Rd H a (.dK kvs) := (n.rd hF).rd fun xs => by intro z; cases z
    refine call_dictD pins s σ H _ us Q I rv ⟨a, kvs, rfl, hd, fun p hp => ?_⟩
    exact kk (.ref p) _ [p] (Le.new hp) ⟨p, kvs, [p], [], rfl, ⟨upd_same, rfl⟩, hks, rz.le (Le.new hp), .inl rfl, rfl⟩ (by simp) (by simpa using hp)
  · exact od_dictP hcalm pins s σ H xs us Q I rv ⟨C, ds0, fx, d, hC, hF, rs, e, kk⟩

/-! ### min, max of a list of data -/
mutual
def noLst : D → Bool
  | .tup ds => noLsts ds
  | .non => true
  | .bl _ => true
  | .int _ => true
  | .str _ => true
  | _ => false
def noLsts : List D → Bool
  | [] => true
  | d :: ds => noLst d && noLsts ds
end
mutual
theorem py_inj : ∀ {d e : D} {y : PyData}, noLst d = true → noLst e = true → d.py = some y → e.py = some y → d = e
  | .non, e, y, _, he, h1, h2 => by
    cases h1
    cases e <;> simp [D.py, noLst] at * 
  | .bl b, e, y, _, he, h1, h2 => by
    cases h1
    cases e <;> simp [D.py, noLst] at *
    all_goals first | exact h2.symm | skip
  | .int b, e, y, _, he, h1, h2 => by
    cases h1
    cases e <;> simp [D.py, noLst] at *
    all_goals first | exact h2.symm | skip
  | .str b, e, y, _, he, h1, h2 => by
    cases h1
    cases e <;> simp [D.py, noLst] at *
    all_goals first | exact h2.symm | skip
  | .tup ds, e, y, hd, he, h1, h2 => by
    obtain ⟨ys, hy, rfl⟩ := Option.map_eq_some_iff.mp h1
    cases e with
    | tup es =>
      obtain ⟨zs, hz, e⟩ := Option.map_eq_some_iff.mp h2
      cases e
      rw [pys_inj (ds := ds) (es := es) hd he hy hz]
    | lst g es => cases he
    | _ => simp [D.py] at h2
  | .ty _, _, _, h, _, _, _ => by cases h
  | .lst _ _, _, _, h, _, _, _ => by cases h
  | .dct _ _ _, _, _, h, _, _, _ => by cases h
  | .obj _ _ _ _, _, _, h, _, _, _ => by cases h
theorem pys_inj : ∀ {ds es : List D} {ys : List PyData}, noLsts ds = true → noLsts es = true → pys ds = some ys → pys es = some ys → ds = es
  | [], es, ys, _, _, h1, h2 => by
    cases h1
    cases es with
    | nil => rfl
    | cons e es =>
      obtain ⟨y, hy, h2⟩ := Option.bind_eq_some_iff.mp h2
      obtain ⟨ys', hys, e⟩ := Option.map_eq_some_iff.mp h2
      cases e
  | d :: ds, es, ys, hd, he, h1, h2 => by
    obtain ⟨y, hy, h1⟩ := Option.bind_eq_some_iff.mp h1
    obtain ⟨ys', hys, rfl⟩ := Option.map_eq_some_iff.mp h1
    cases es with
    | nil => cases h2
    | cons e es =>
      obtain ⟨y2, hy2, h2⟩ := Option.bind_eq_some_iff.mp h2
      obtain ⟨ys2, hys2, e2⟩ := Option.map_eq_some_iff.mp h2
      cases e2
      have hd := Bool.and_eq_true_iff.mp hd
      have he := Bool.and_eq_true_iff.mp he
      rw [py_inj hd.1 he.1 hy hy2, pys_inj hd.2 he.2 hys hys2]
end
def bestD (f : PyData → PyData → Bool) : List D → D → D
  | [], a => a
  | y :: ds, a => bestD f ds (if f (pyO y) (pyO a) then y else a)
def minOk (ds : List D) : Bool := (pys ds).isSome && noLsts ds && alikeB ds && shallowB ds && ds.all fun d => notNone (pyO d)
def pMinL : List D → Option D
  | [.lst _ (d :: ds)] => if minOk (d :: ds) then some (bestD (fun y a => PySem.W.dataLt y a) ds d) else none
  | _ => none
def pMaxL : List D → Option D
  | [.lst _ (d :: ds)] => if minOk (d :: ds) then some (bestD (fun y a => PySem.W.dataLt a y) ds d) else none
  | _ => none
theorem best_mem (f : PyData → PyData → Bool) : ∀ (ds : List D) (a : D), bestD f ds a = a ∨ bestD f ds a ∈ ds
  | [], a => .inl rfl
  | y :: ds, a => by
    unfold bestD
    split
    · rcases best_mem f ds y with z | z
      · exact .inr (by rw [z]; simp)
      · exact .inr (by simp [z])
    · rcases best_mem f ds a with z | z
      · exact .inl z
      · exact .inr (by simp [z])
theorem best_py (f : PyData → PyData → Bool) : ∀ (ds : List D) (a : D), pyO (bestD f ds a) = (ds.map pyO).foldl (fun a y => if f y a then y else a) (pyO a)
  | [], a => rfl
  | y :: ds, a => by
    unfold bestD
    rw [best_py f ds, List.map_cons, List.foldl_cons]
    split <;> rfl
theorem noLst_imm : ∀ {d : D}, noLst d = true → d.imm = true := by
  have key : ∀ n : Nat, ∀ d : D, sizeOf d ≤ n → noLst d = true → d.imm = true := by
    intro n
    induction n with
    | zero => intro d h; cases d <;> simp at h
    | succ n ih =>
      intro d h hd
      cases d with
      | tup ds =>
        have h2 : noLsts ds = true := hd
        show imms ds = true
        have h3 : ∀ d ∈ ds, sizeOf d ≤ n := fun d hd => by
          have := List.sizeOf_lt_of_mem hd
          simp at h; omega
        clear h hd
        induction ds with
        | nil => rfl
        | cons d ds ih2 =>
          have := Bool.and_eq_true_iff.mp h2
          simp only [imms, ih d (h3 d (by simp)) this.1, ih2 this.2 fun d hd => h3 d (by simp [hd]), Bool.and_self]
      | lst _ _ => cases hd
      | dct _ _ _ => cases hd
      | obj _ _ _ _ => cases hd
      | _ => rfl
  exact fun {d} h => key _ d (Nat.le_refl _) h
theorem noLsts_mem : ∀ {ds : List D} {d : D}, noLsts ds = true → d ∈ ds → noLst d = true
  | d0 :: ds, d, h, hd => by
    have := Bool.and_eq_true_iff.mp h
    rcases List.mem_cons.mp hd with z | z
    · subst z; exact this.1
    · exact noLsts_mem this.2 z
theorem noLsts_imms {ds : List D} (h : noLsts ds = true) : imms ds = true := by
  rw [imms_all, List.all_eq_true]
  exact fun d hd => noLst_imm (noLsts_mem h hd)
end
end VS

set_option maxRecDepth 100000
namespace VS
open PySem L2 SeqAt PySem.Spec PyProof.Rows
section
variable {X : Cx} {C : Ctx} {H H' : Hp} {pins : List (Addr × Obj)} {σ : L2.St} {s : Shared}
def shallowA (ds : List D) : Bool := match pys ds with
  | some ys => decide (PyData.depthAll ys ≤ 20)
  | none => false
theorem best_of (I : Inv X pins σ H s) (hC : C.At X) (hF : Fr C H) {f : PyData → PyData → Bool} {d0 : D} {ds : List D} {vs : List V} {fp : List Addr} {its : List Value} {h' : Heap} {i : Nat} {v : Value} {bs : List Addr} (hok : minOk (d0 :: ds) = true) (rs : Reps C H (d0 :: ds) vs fp) (rv : Vals vs its)
    (hk : ∀ b o, s.heap.get? b = some o → h'.get? b = some o) (hi : its[i]? = some v) (hr : Reads h' v ((ds.map pyO).foldl (fun a y => if f y a then y else a) (pyO d0)) bs) : ∃ w, RelV w v ∧ Rep C H (bestD f ds d0) w [] := by
  unfold minOk at hok
  simp only [Bool.and_eq_true] at hok
  obtain ⟨⟨⟨⟨h1, h2⟩, h3⟩, h4⟩, h5⟩ := hok
  obtain ⟨ys, hys⟩ := Option.isSome_iff_exists.mp h1
  have him := noLsts_imms h2
  have z := rs.imm him
  subst z
  obtain ⟨w, hw, rw'⟩ := vals_get' rv hi
  obtain ⟨d, hd, rd⟩ := reps_imm_get rs him hw
  have hdm := List.mem_of_getElem? hd
  have hbm : bestD f ds d0 ∈ d0 :: ds := by
    rcases best_mem f ds d0 with z | z
    · rw [z]; simp
    · simp [z]
  obtain ⟨as, ra, _⟩ := reads_rep I hC hF (pys_mem hys hdm) rd rw'
  rw [← best_py] at hr
  have hal : PySem.W.alike (pyO d) (pyO (bestD f ds d0)) = true := List.all_eq_true.mp (List.all_eq_true.mp h3 d hdm) _ hbm
  have e := PySem.W.alike_unique _ _ v _ _ hal (PyProof.Rows.Reads.keeps hk ra) hr
  have hdp := pys_mem hys hdm
  rw [e] at hdp
  have : d = bestD f ds d0 := py_inj (noLsts_mem h2 hdm) (noLsts_mem h2 hbm) hdp (pys_mem hys hbm)
  subst this
  exact ⟨w, rw', rd⟩
theorem minOk_alike {ds : List D} {ys : List PyData} (h : minOk ds = true) (hy : pys ds = some ys) : PySem.W.AlikeAll ys := by
  unfold minOk at h
  simp only [Bool.and_eq_true] at h
  have e := pys_map hy
  subst e
  refine ⟨fun x hx y hy => ?_, fun x hx e => ?_⟩
  · exact alikeB_ok h.1.1.2 x hx y hy
  · obtain ⟨d, hd, rfl⟩ := List.mem_map.mp hx
    have := List.all_eq_true.mp h.2 d hd
    rw [e] at this
    exact absurd this (by simp [notNone])
def pMinG : List D → Option D := fun ds => match ds with
  | [.lst g (d :: es)] => if shallowA (d :: es) then pMinL [.lst g (d :: es)] else none
  | ds => pMin2 ds
def pMaxG : List D → Option D := fun ds => match ds with
  | [.lst g (d :: es)] => if shallowA (d :: es) then pMaxL [.lst g (d :: es)] else none
  | ds => pMax2 ds
theorem od_minG {k : Nat} (hr : Room k X.A) (hcalm : X.calm = true) : ODL X (.builtin "min") pMinG := by
  intro pins s σ H xs us Q I rv ⟨C, ds0, fx, dr, hC, hF, rs, e, kk⟩
  unfold pMinG at e
  split at e
  · rename_i g d es
    split at e
    case isFalse => cases e
    rename_i hsh
    unfold pMinL at e
    split at e
    case h_2 => rename_i hh; exact absurd rfl (hh g d es)
    rename_i g' d' es' he
    cases he
    split at e
    case isFalse => cases e
    rename_i hok
    cases e
    obtain ⟨v, rfl, r⟩ := reps1 rs
    obtain ⟨a, vs, f, rfl, q, rz⟩ := rep_list hC hF r
    obtain ⟨u, rfl, ru⟩ := vals1 rv
    cases (show u = Value.ref a from ru)
    obtain ⟨its, rv2, hl, hz⟩ := I.list q
    unfold shallowA at hsh
    split at hsh
    case h_2 => cases hsh
    rename_i ys hys
    have e1 := pys_map hys
    obtain ⟨as, ra, _⟩ := readsAll_rep I hC hF hys rz rv2
    subst e1
    refine PySem.W.min_list_data (x := pyO d) (xs := es.map pyO) (as := as) (I.ok.hd hcalm) hl.isList (by simpa using ra) (minOk_alike hok hys) (by
      have h1 := of_decide_eq_true hsh
      have := hr.units
      simp only [List.map_cons] at h1
      omega) fun i v h' tk bs hv hrd hk => ?_
    obtain ⟨w, h1, h2⟩ := best_of (f := fun y a => PySem.W.dataLt y a) I hC hF hok rz rv2 hk (by simpa using hv) hrd
    exact ⟨w, H, I.kept hk, h1, kk.here h2⟩
  · exact od_min2 hcalm pins s σ H xs us Q I rv ⟨C, ds0, fx, dr, hC, hF, rs, e, kk⟩
theorem od_maxG {k : Nat} (hr : Room k X.A) (hcalm : X.calm = true) : ODL X (.builtin "max") pMaxG := by
  intro pins s σ H xs us Q I rv ⟨C, ds0, fx, dr, hC, hF, rs, e, kk⟩
  unfold pMaxG at e
  split at e
  · rename_i g d es
    split at e
    case isFalse => cases e
    rename_i hsh
    unfold pMaxL at e
    split at e
    case h_2 => rename_i hh; exact absurd rfl (hh g d es)
    rename_i g' d' es' he
    cases he
    split at e
    case isFalse => cases e
    rename_i hok
    cases e
    obtain ⟨v, rfl, r⟩ := reps1 rs
    obtain ⟨a, vs, f, rfl, q, rz⟩ := rep_list hC hF r
    obtain ⟨u, rfl, ru⟩ := vals1 rv
    cases (show u = Value.ref a from ru)
    obtain ⟨its, rv2, hl, hz⟩ := I.list q
    unfold shallowA at hsh
    split at hsh
    case h_2 => cases hsh
    rename_i ys hys
    have e1 := pys_map hys
    obtain ⟨as, ra, _⟩ := readsAll_rep I hC hF hys rz rv2
    subst e1
    refine PySem.W.max_list_data (x := pyO d) (xs := es.map pyO) (as := as) (I.ok.hd hcalm) hl.isList (by simpa using ra) (minOk_alike hok hys) (by
      have h1 := of_decide_eq_true hsh
      have := hr.units
      simp only [List.map_cons] at h1
      omega) fun i v h' tk bs hv hrd hk => ?_
    obtain ⟨w, h1, h2⟩ := best_of (f := fun y a => PySem.W.dataLt a y) I hC hF hok rz rv2 hk (by simpa using hv) hrd
    exact ⟨w, H, I.kept hk, h1, kk.here h2⟩
  · exact od_max2 hcalm pins s σ H xs us Q I rv ⟨C, ds0, fx, dr, hC, hF, rs, e, kk⟩
/-! ### divmod -/
def pDivmod : List D → Option D
  | [.int i, .int j] => if 0 < j ∧ j < 2 ^ 64 then some (.tup [.int (i / j), .int (i % j)]) else none
  | _ => none
theorem od_divmod : ODL X (.builtin "divmod") pDivmod := by
  refine ODL.of call_divmodW fun xs H Q ⟨C, ds, fx, d, hC, hF, rs, e, k⟩ => ?_
  unfold pDivmod at e
  split at e
  case h_2 => cases e
  rename_i i j
  split at e
  case isFalse => cases e
  rename_i hj
  cases e
  obtain ⟨v, w, f1, f2, rfl, r, r', _⟩ := reps2 rs
  obtain ⟨rfl, _⟩ := r
  obtain ⟨rfl, _⟩ := r'
  refine ⟨i, j, rfl, ?_, fun p hp => ?_⟩
  · exact ⟨hj.1, PyProof.noPylong_of_log2 (wide_div (i := i) (b := 64) hj.1 (by omega) (by decide) (by decide)).2⟩
  · exact k (.ref p) _ [] (Le.new hp) ⟨p, [.int (i / j), .int (i % j)], rfl, .inl (.inl upd_same), .int (i / j), [.int (i % j)], [], [], rfl, ⟨rfl, rfl⟩, ⟨.int (i % j), [], [], [], rfl, ⟨rfl, rfl⟩, ⟨rfl, rfl⟩, rfl⟩, rfl⟩ .nil fun _ z => nomatch z
end
end VS

set_option maxRecDepth 100000
namespace VS
open PySem L2 SeqAt PySem.Spec PyProof.Rows
section
variable {X : Cx} {W : WX} {Ma Mb Mc V1 V2 V3 Rs R1 R2 R3 : List Nat} {e f a b c tg o : Expr} {es : List Expr} {ca cb cc : CE} {cs : CA} {ct : CT} {pos p apos cpos : Pos} {cl : CL} {i : Nat} {st : Stmt}
variable {C : Ctx} {H H' : Hp} {pins : List (Addr × Obj)} {σ : L2.St} {s : Shared}
/-- a statement that is never reached -/
theorem ss_never : SS X W [] [] st (fun _ => .err) := ⟨tNever, ps_never, fun _ _ _ _ _ _ _ _ _ po => po.elim⟩
/-- a constant of the module -/
theorem so_globS {x : Str} {z : Str} (h : ∃ t, X.mg x = some (.str z t)) (hg : Gl X x) (hd : (x == ("__debug__" : Str)) = false) : SO X W [] (.Name x pos) (cK (.str z)) :=
  let ⟨t, hm⟩ := h
  so_k (v := .str z) (pe_glob (v := .str z) hg hm (show ∃ t', Value.str z t = Value.str z t' from ⟨t, rfl⟩) hd) (fun _ _ _ h => h) fun _ _ => ⟨rfl, rfl⟩
theorem so_globI {x : Str} {z : Int} (h : ∃ t, X.mg x = some (.int z t)) (hg : Gl X x) (hd : (x == ("__debug__" : Str)) = false) : SO X W [] (.Name x pos) (cK (.int z)) :=
  let ⟨t, hm⟩ := h
  so_k (v := .int z) (pe_glob (v := .int z) hg hm (show ∃ t', Value.int z t = Value.int z t' from ⟨t, rfl⟩) hd) (fun _ _ _ h => h) fun _ _ => ⟨rfl, rfl⟩
/-! ### a text sign by sign -/
def signsD (z : Str) : List D := z.cps.toList.map fun c => .str ⟨#[c]⟩
def iStrD (c : CE) : CA := fun env => (c env).bind fun d env => match d with
  | .str z => .ok (signsD z) env
  | _ => .err
theorem si_str (h : SB X W Ma Rs e ca) : SI X W Ma Rs tg e (iStrD ca) := by
  obtain ⟨t, p, q⟩ := h.go
  refine ⟨iStr t, pi_str p, fun C fs env σ H tf Q hC G po => q C fs env σ H tf _ hC G ?_⟩
  unfold iStrD at po
  cases e1 : ca env with
  | err => rw [e1] at po; exact po
  | ex x env' => rw [e1] at po; exact po
  | ok d env1 =>
    rw [e1] at po
    intro v fs1 H1 fp own G1 s1 r1 i1
    cases d with
    | str z =>
      obtain ⟨rfl, rfl⟩ := r1
      have po' : PostI W C Ma Rs tf fs env σ H Q (.ok (signsD z) env1) := po
      refine ⟨z, rfl, po' _ fs1 H1 [] own G1 s1 ⟨?_⟩ fun _ z => nomatch z⟩
      have hl : (signsD z).length = z.cps.size := by simp [signsD]
      rw [hl]
      refine walk_str.mono (fun _ _ => trivial) fun i H x H' hi _ ⟨e1, cc, e2, e3⟩ => ?_
      subst e1 e3
      exact ⟨.refl _, .str ⟨#[cc]⟩, by simp [signsD, e2], rfl, rfl⟩
    | _ => exact po.elim
/-! ### in -/
def pInS : D → D → Option D
  | .str a, .str b => (match a.cps.toList with
    | [c] => some (.bl (decide (c ∈ b.cps.toList)))
    | _ => none)
  | _, _ => none
theorem od_inS : OD2 X (compareOp .In) pInS := by
  refine OD2.of op_in_sign fun x y H Q ⟨C, dx, dy, fx, fy, d, hC, hF, r1, r2, e, k⟩ => ?_
  unfold pInS at e
  split at e
  case h_2 => cases e
  rename_i a b
  split at e
  case h_2 => cases e
  rename_i cc hcc
  cases e
  obtain ⟨rfl, _⟩ := r1
  obtain ⟨rfl, _⟩ := r2
  refine ⟨cc, b, ?_, rfl, k.here ⟨rfl, rfl⟩⟩
  have : a.cps = #[cc] := by
    apply Array.toList_inj.mp; simpa using hcc
  cases a
  simp at this
  subst this; rfl
def pInW : D → D → Option D := orP2 pInS pIn
theorem od_inW {k : Nat} (hr : Room k X.A) : OD2 X (compareOp .In) pInW := od_inS.or (od_in hr)
end
end VS

set_option maxRecDepth 100000
namespace VS
open PySem L2 SeqAt PySem.Spec PyProof.Rows
def sortOkM (ds : List D) : Bool := (pys ds).isSome && alikeB ds && sortableB ds && shallowB ds && decide (ds.length ≤ sizeLine)
section
variable {X : Cx} {C : Ctx} {H H' : Hp} {pins : List (Addr × Obj)} {σ : L2.St} {s : Shared}
theorem reps_zip : ∀ {ds : List D} {vs : List V} {fp : List Addr}, Reps C H ds vs fp → Reps C H ((ds.zip vs).map (·.1)) ((ds.zip vs).map (·.2)) fp
  | [], vs, fp, ⟨e, e2⟩ => by subst e e2; exact ⟨rfl, rfl⟩
  | d :: ds, vs, fp, ⟨v, vs', f1, f2, e, r, rs, e2⟩ => by subst e e2; exact ⟨_, _, f1, f2, rfl, r, reps_zip rs, rfl⟩
theorem reps_perm {bs cs : List (D × V)} (h : bs.Perm cs) : ∀ {fp : List Addr}, Reps C H (bs.map (·.1)) (bs.map (·.2)) fp → ∃ fp', fp'.Perm fp ∧ Reps C H (cs.map (·.1)) (cs.map (·.2)) fp' := by
  induction h with
  | nil => intro fp r; exact ⟨fp, .refl _, r⟩
  | cons b _ ih =>
    rintro fp ⟨v, vs', f1, f2, e, r, rs, e2⟩
    cases e; subst e2
    obtain ⟨f3, h1, h2⟩ := ih rs
    exact ⟨f1 ++ f3, h1.append_left f1, _, _, f1, f3, rfl, r, h2, rfl⟩
  | swap b c l =>
    rintro fp ⟨v, vs', f1, f2, e, r, ⟨v2, vs2, f3, f4, e3, r3, rs, e4⟩, e2⟩
    cases e; cases e3; subst e2 e4
    refine ⟨f3 ++ (f1 ++ f4), ?_, _, _, f3, f1 ++ f4, rfl, r3, ⟨_, _, f1, f4, rfl, r, rs, rfl⟩, rfl⟩
    rw [← List.append_assoc, ← List.append_assoc]
    exact List.perm_append_comm.append_right f4
  | trans _ _ h1 h2 =>
    intro fp r
    obtain ⟨f1, p1, r1⟩ := h1 r
    obtain ⟨f2, p2, r2⟩ := h2 r1
    exact ⟨f2, p2.trans p1, r2⟩
/-- sorted(x), what is in it goes along -/
theorem sorted_byP (I : Inv X pins σ H s) {k : Nat} (hr : Room k X.A) (hC : C.At X) (hF : Fr C H) {u : Value} {ds : List D} {vs : List V} {Q : VK} {fp : List Addr} (hok : sortOkM ds = true) (rs : Reps C H ds vs fp)
    (hcoll : ∀ {R : List Value → Shared → Prop} {E : Value → Shared → Prop}, (∀ h' tk us, (∀ b o, s.heap.get? b = some o → h'.get? b = some o) → Vals vs us → R us { s with heap := h', toks := tk }) → wpAny (model X.prog X.w) X.A.in1 (collect u) R E s)
    (hq : ∀ p, H p = none → ∀ vs' fp', Reps C H (ds.mergeSort leD) vs' fp' → fp'.Perm fp → Q (.ref p) (upd H p (.lst vs'))) : wpAny (model X.prog X.w) X.A (call (.builtin "sorted") [u]) (EP X pins σ Q) X.xe s := by
  obtain ⟨h6, hlen⟩ := Bool.and_eq_true_iff.mp hok
  obtain ⟨h5, hsh⟩ := Bool.and_eq_true_iff.mp h6
  obtain ⟨h4, hso⟩ := Bool.and_eq_true_iff.mp h5
  obtain ⟨h2, hal⟩ := Bool.and_eq_true_iff.mp h4
  obtain ⟨ys, hys⟩ := Option.isSome_iff_exists.mp h2
  have hlen := of_decide_eq_true hlen
  have lv : ds.length = vs.length := reps_length rs
  refine Calls.call_function_entry PyProof.Rows.kind_sorted PyProof.Rows.plain_sorted PyProof.Rows.entry_sorted (PyProof.Rows.args_sorted1 _) ?_
  unfold Builtin.«sorted»
  refine wpAny_bind (m := checkCount "sorted" 1 1 _) (wpAny_pure ?_)
  refine wpAny_bind (hcoll fun h' tk us hk rv => ?_)
  have lu : us.length = ds.length := by rw [lv, rv.length]
  have I1 : Inv X pins σ H { s with heap := h', toks := tk } := I.kept hk
  have er0 := each_reads I1 hC hF hys rs rv
  refine wpAny_bind (wpAny_newList ?_ (by rw [lu]; exact hlen))
  have hoL : (h'.push (seqObj "list" us.toArray 0)).get? h'.objs.size = some (seqObj "list" us.toArray 0) := Heap.get?_push_size _ rfl
  show wpAny _ _ _ _ _ { s with heap := h'.push (seqObj "list" us.toArray 0), toks := tk }
  have er1 : PySem.W.EachIs (fun (u : Value) (b : D × V) => ∃ as, Reads (h'.push (seqObj "list" us.toArray 0)) u (pyO b.1) as ∧ h'.objs.size ∉ as) us (ds.zip vs) :=
    er0.mono fun u b ⟨as, r, l⟩ => ⟨as, PyProof.Rows.Reads.keeps (fun _ _ e => Heap.get?_push_of_some _ e) r, fun z => Nat.lt_irrefl _ (l _ z)⟩
  have hz1 : (ds.zip vs).map (fun b => pyO b.1) = ds.map pyO := by
    have e := congrArg (List.map pyO) (zip_fst lv)
    rw [List.map_map] at e; exact e
  have hal' : PySem.W.AllAlike ((ds.zip vs).map (fun b => pyO b.1)) := by rw [hz1]; exact alikeB_ok hal
  have hso' : PySem.W.Sortable ((ds.zip vs).map (fun b => pyO b.1)) := by rw [hz1]; exact sortableB_ok hso
  have er2 : PySem.W.EachIs (fun (u : Value) (b : D × V) => ∃ as, Reads (PySem.W.sortingHeap (h'.push (seqObj "list" us.toArray 0)) h'.objs.size us) u (pyO b.1) as) us (ds.zip vs) :=
    PySem.W.each_keepBut (h' := PySem.W.sortingHeap (h'.push (seqObj "list" us.toArray 0)) h'.objs.size us) (fun _ _ hb q => PySem.W.sortingHeap_old hb q) (fun o q => by rw [hoL] at q; rw [← Option.some.inj q]) hal' er1
  have lz : (ds.zip vs).length = us.length := by simp; omega
  have hun : ∀ b ∈ ds.zip vs, X.A.in1.in1.units + (pyO b.1).depth < cLine := fun b hb => by
    have h1 := of_decide_eq_true (List.all_eq_true.mp hsh b.1 (List.of_mem_zip hb).1)
    have := hr.units
    show X.A.units + 1 + 1 + _ < _
    omega
  have er3 := er1.mono fun u b ⟨as, r, l⟩ => (⟨as, r⟩ : ∃ as, Reads (h'.push (seqObj "list" us.toArray 0)) u (pyO b.1) as)
  have eo := PySem.W.sortVals_data (R := fun (u : Value) (b : D × V) => RelV b.2 u) false (each_rel lv rv) er2 hal'
  refine wpAny_bind (wpAny_holding (wpAny_call_entry PyProof.Rows.slot_list_sort ⟨_, hoL, rfl⟩ PyProof.Rows.entry_list_sort
    (PySem.W.list_sort_vals (κ := PySem.W.dataKind (PySem.W.sortingHeap (h'.push (seqObj "list" us.toArray 0)) h'.objs.size us) ((ds.zip vs).map (fun b => pyO b.1))) (s := { s with heap := h'.push (seqObj "list" us.toArray 0), toks := tk }) hoL
      (PySem.W.SortsAt.data (s := { s with heap := PySem.W.sortingHeap (h'.push (seqObj "list" us.toArray 0)) h'.objs.size us, toks := tk }) (PySem.W.each_map (R := fun v d => ∃ as, Reads (PySem.W.sortingHeap (h'.push (seqObj "list" us.toArray 0)) h'.objs.size us) v d as) (fun b : D × V => pyO b.1) er2) hal' hso' (PySem.W.bound_map hun)) (by rw [lu]; exact hlen) ⟨.none, rfl, ?_⟩)
    (PyProof.Rows.args_list_sort _)))
  have hout := each_vals eo
  have hperm := List.mergeSort_perm (ds.zip vs) (PySem.W.dataLe false fun b : D × V => pyO b.1)
  obtain ⟨fp', hpf, hreps⟩ := reps_perm hperm.symm (reps_zip rs)
  have hms : ((ds.zip vs).mergeSort (PySem.W.dataLe false fun b : D × V => pyO b.1)).map (·.1) = ds.mergeSort leD := by
    have hm := List.map_mergeSort (r := PySem.W.dataLe false fun b : D × V => pyO b.1) (s := leD) (f := fun b : D × V => b.1) (l := ds.zip vs) (fun a _ b _ => rfl)
    rw [hm, zip_fst lv]
  rw [hms] at hreps
  obtain ⟨e', he'⟩ := PyProof.Rows.sortedHeap_at (vs := us) (out := (PySem.W.sortVals (PySem.W.dataKind (PySem.W.sortingHeap (h'.push (seqObj "list" us.toArray 0)) h'.objs.size us) ((ds.zip vs).map (fun b => pyO b.1))) false us us).toArray) hoL
  have hl2 : (((ds.zip vs).mergeSort (PySem.W.dataLe false fun b : D × V => pyO b.1)).map (·.2)).length ≤ sizeLine := by
    rw [List.length_map, hperm.length_eq, lz, lu]; exact hlen
  refine wpAny_pure ⟨_, rfl, .ref h'.objs.size, upd H h'.objs.size (.lst (((ds.zip vs).mergeSort (PySem.W.dataLe false fun b : D × V => pyO b.1)).map (·.2))), I1.laid (t' := tk) (fun b u e => ?_) (Nat.le_refl _)
    (show ObjOk X.prog X.w _ _ _ (.lst _) from ⟨hl2, _, e', hout, he'⟩), rfl, hq _ (I1.hok.fresh (Nat.le_refl _)) _ _ hreps hpf⟩
  have hb : b < h'.objs.size := Heap.lt_size e
  rw [PyProof.Rows.sortedHeap_old (Nat.ne_of_lt hb) (by rw [size_push']; exact Nat.lt_succ_of_lt hb)]
  exact Heap.get?_push_of_some _ e

end
/-! ### list(d.values()) -/
section
variable {X : Cx} {W : WX} {M Rs : List Nat} {e o : Expr} {c : CE} {pos p apos mpos : Pos} {td : TE}
def tListVals (td : TE) : TE := fun σ H Q => td σ H fun x H1 => ∃ (a : Addr) (kvs : List (Key × V)), x = V.ref a ∧ Rd H1 a (.dK kvs) ∧ ∀ q, H1 q = none → Q (.ref q) (upd H1 q (.lst (kvs.map (·.2))))
theorem vals_at : ∀ {kvs : List (Key × V)} {vs : List (Key × Value)} {acc : List Value}, KV kvs vs → acc.length = vs.length → (∀ (j : Nat) (v : Value), acc[j]? = some v → ∃ k, vs[j]? = some (k, v)) → Vals (kvs.map (·.2)) acc := by
  intro kvs vs acc rel
  unfold KV at rel
  induction rel generalizing acc with
  | nil =>
    intro h _
    cases acc with
    | nil => exact .nil
    | cons _ _ => simp at h
  | cons r t ih =>
    intro h hv
    cases acc with
    | nil => simp at h
    | cons u us =>
      obtain ⟨k, e⟩ := hv 0 u rfl
      simp at e
      refine .cons ?_ (ih (by simpa using h) fun j v q => by simpa using hv (j + 1) v (by simpa using q))
      have := r.2
      rw [e] at this; exact this
theorem pe_listVals (hc : X.calm = true) (hg : Gl X "list") (hm : X.mg "list" = none) (hd : PE X o td) (hbase : attributeBase o "values" X.env (eval o X.env) = eval o X.env := by rfl) (hline : (apos.endLine == mpos.line) = true := by rfl)
    (hse : starEach [Expr.Call (.Attribute o "values" apos) [] [] mpos] X.env = [(false, eval (Expr.Call (.Attribute o "values" apos) [] [] mpos) X.env)] := by rfl) :
    PE X (.Call (.Name "list" p) [.Call (.Attribute o "values" apos) [] [] mpos] [] pos) (tListVals td) := by
  refine ⟨fun pins s σ H Q I h => ?_⟩
  refine wpAny_Call_Name_kw (ld_blt I hg hm (u := .type "list") (by first | rfl | decide +kernel) ?_ (by first | decide +kernel | decide) (by first | decide +kernel | decide))
  rw [hse]
  refine PySem.callWith_type1 (wpAny_Call_method0_late hbase hline (thn (hd.run pins s σ H _ I h) fun v s1 ⟨x, H1, I1, r1, a, kvs, ex, ha, q⟩ => ?_))
  subst ex
  obtain rfl : v = Value.ref a := r1
  obtain ⟨z, hsys, vs, rel, dof⟩ := dk_rd I1.hok ha
  obtain ⟨ep, dat⟩ := dof.dictAt
  have dat' := dat
  obtain ⟨ob, es, ho, ex, hdat, hko, hpr, hnd⟩ := dat'
  refine ⟨"dict", "dict.values", F.plainAttrs_dict, F.slot_dict_values, F.type_dict_values, ⟨ob, ho, ex.1⟩, fun b e => ?_, Calls.callWith_builtin rfl (PySem.evalArgs_none ?_)⟩
  · cases e
    exact ⟨ob, ho, ex.2.1⟩
  refine call_meetsIn F.slot_dict_values ⟨ob, ho, ex.1⟩ F.entry_dict_values (F.args_dict_values_1 _) (meets_dict_values (mixKind X.prog X.w) a hsys) ⟨⟨vs, dof⟩, ?_⟩
  have k1 : ∀ b u, s1.heap.get? b = some u → (s1.heap.push { cls := .type "dict_values", data := .fields #[.ref a] }).get? b = some u := fun b u e => Heap.get?_push_of_some _ e
  have dat1 : (s1.heap.push { cls := .type "dict_values", data := .fields #[.ref a] }).DictAt (mixKind X.prog X.w) a vs ep := dat.keep k1
  have hlv : vs.length = kvs.length := (KV.length rel).symm
  have hlen : vs.length ≤ sizeLine := by rw [hlv]; exact z
  refine PySem.W.kdl_call (PySem.W.kdl_values (knd := mixKind X.prog X.w) (kvs := vs) (ep := ep)) (I.ok.hd hc) ⟨⟨_, Heap.get?_push_size _ rfl, rfl, rfl⟩, dat1⟩ hlen fun h' tk acc c' hk hD hacc => ?_
  have hv : Vals (kvs.map (·.2)) acc.toList := vals_at rel (by rw [Array.length_toList]; exact hacc.1) fun j v e => hacc.2 j v (by rw [← Array.getElem?_toList]; exact e)
  have hsz : (s1.heap.push { cls := .type "dict_values", data := .fields #[.ref a] }).objs.size = s1.heap.objs.size + 1 := Heap.size_push _ _
  have hle : s1.heap.objs.size ≤ (s1.heap.push { cls := .type "dict_values", data := .fields #[.ref a] }).objs.size := by rw [hsz]; exact Nat.le_succ _
  refine ⟨.ref _, upd H1 _ (.lst (kvs.map (·.2))), I1.laid (t' := tk) (fun b u e => hk b u (k1 b u e)) hle
    (show ObjOk X.prog X.w _ _ _ (.lst (kvs.map (·.2))) from ⟨by rw [List.length_map]; exact z, acc.toList, c', hv, by rw [Array.toArray_toList]; exact hD⟩), rfl, q _ (I1.hok.fresh hle)⟩
/-- the values of a dict of one's own, as a list: the dict is given up -/
def cVals (c : CE) : CE := fun env => (c env).bind fun d env => match d with
  | .dct .m _ ds => .ok (.lst .m ds) env
  | _ => .err
theorem so_valsM (hc : X.calm = true) (hg : Gl X "list") (hm : X.mg "list" = none) (h : SO X W M o c) (hbase : attributeBase o "values" X.env (eval o X.env) = eval o X.env := by rfl) (hline : (apos.endLine == mpos.line) = true := by rfl)
    (hse : starEach [Expr.Call (.Attribute o "values" apos) [] [] mpos] X.env = [(false, eval (Expr.Call (.Attribute o "values" apos) [] [] mpos) X.env)] := by rfl) :
    SO X W M (.Call (.Name "list" p) [.Call (.Attribute o "values" apos) [] [] mpos] [] pos) (cVals c) := by
  obtain ⟨t, pe, q⟩ := h.go
  refine ⟨tListVals t, pe_listVals hc hg hm pe hbase hline hse, fun C fs env σ H tf Q hC G po => ?_⟩
  refine q C fs env σ H tf _ hC G ?_
  unfold cVals at po
  cases e1 : c env with
  | err => rw [e1] at po; exact po
  | ex x env' => rw [e1] at po; exact po
  | ok d env1 =>
    rw [e1] at po
    intro v fs1 H1 fp G1 s1 r
    cases d with
    | dct g ks ds =>
      cases g with
      | m =>
        have po' : PostO W C M tf fs env σ H Q (.ok (.lst .m ds) env1) := po
        obtain ⟨a, kvs, f1, f2, rfl, n, hks, rz, _, rfl⟩ := r
        have hd : Rd H1 a (.dK kvs) := (n.rd G1.fr).rd fun xs => by intro z; cases z
        refine ⟨a, kvs, rfl, hd, fun p hp => ?_⟩
        have le : Le H1 (upd H1 p (.lst (kvs.map (·.2)))) := Le.new hp
        have G2 : Good C fs1 env1 σ H1 (f2 ++ tf) := G1.sub (by rw [List.append_assoc]; exact List.sublist_append_right _ _)
        have G3 := G2.new (o := .lst (kvs.map (·.2))) hp trivial
        refine po' (.ref p) fs1 _ (p :: f2) (by simpa using G3) ?_ ⟨p, kvs.map (·.2), [p], f2, rfl, ⟨upd_same, rfl⟩, rz.le le, .inl rfl, rfl⟩
        have := s1.trans (Step.grow (M := []) G1.drop le)
        simpa using this
      | _ => exact po.elim
    | _ => exact po.elim
/-! ### sorted, what is in it goes along -/
def cSortM (c : CE) : CE := fun env => (c env).bind fun d env => match d with
  | .lst .m ds => if sortOkM ds then .ok (.lst .m (ds.mergeSort leD)) env else .err
  | _ => .err
def rSortM (X : Cx) : List V → Hp → VK → Prop := fun xs H Q => ∃ (C : Ctx) (ds : List D) (vs : List V) (f2 : List Addr) (a : Addr), C.At X ∧ Fr C H ∧ xs = [V.ref a] ∧ SqL X.K H a vs ∧ Reps C H ds vs f2 ∧ sortOkM ds = true ∧ ∀ p, H p = none → ∀ vs' fp', Reps C H (ds.mergeSort leD) vs' fp' → fp'.Perm f2 → Q (.ref p) (upd H p (.lst vs'))
theorem call_sortM {k : Nat} (hr : Room k X.A) : CallR X (.builtin "sorted") (rSortM X) := by
  intro pins s σ H xs us Q I rv h
  obtain ⟨C, ds, vs, f2, a, hC, hF, ex, q, rz, hok, kk⟩ := h
  subst ex
  obtain ⟨u, rfl, ru⟩ := vals1 rv
  cases (show u = Value.ref a from ru)
  obtain ⟨its, rv2, ⟨o, n, ho, hc, hdi, hd⟩, hz⟩ := I.list q
  refine sorted_byP I hr hC hF hok rz (fun hR => ?_) kk
  exact wpAny_collect_seq a (T := "list") (.inl rfl) ho hc hd (fun h' hk => hR h' s.toks its hk rv2) (by rw [List.size_toArray, ← rv2.length]; exact hz)
theorem so_sortM {k : Nat} {pf : Pos} (hr : Room k X.A) (hg : Gl X "sorted") (hm : X.mg "sorted" = none) (h : SO X W M e c) (he : starEach [e] X.env = [(false, eval e X.env)] := by rfl) :
    SO X W M (.Call (.Name "sorted" pf) [e] [] pos) (cSortM c) := by
  obtain ⟨t, pe, q⟩ := h.go
  refine ⟨_, pe_callB (call_sortM (X := X) hr) hg hm (by decide +kernel) (pa_cons pe pa_nil he) (by decide) (by decide) he (by rfl), fun C fs env σ H tf Q hC G po => ?_⟩
  show t σ H fun v H1 => rSortM X [v] H1 Q
  refine q C fs env σ H tf _ hC G ?_
  unfold cSortM at po
  cases e1 : c env with
  | err => rw [e1] at po; exact po
  | ex x env' => rw [e1] at po; exact po
  | ok d env1 =>
    rw [e1] at po
    intro v fs1 H1 fp G1 s1 r
    cases d with
    | lst g ds =>
      cases g with
      | m =>
        cases hok : sortOkM ds with
        | false => simp only [R.bind, hok] at po; exact po.elim
        | true =>
          have po' : PostO W C M tf fs env σ H Q (.ok (.lst .m (ds.mergeSort leD)) env1) := by simpa only [R.bind, hok, if_true] using po
          obtain ⟨a, vs, f1, f2, rfl, n, rz, _, rfl⟩ := r
          refine ⟨C, ds, vs, f2, a, hC, G1.fr, rfl, by have := (Nd.rd n G1.fr).sql; rwa [hC.1] at this, rz, hok, fun p hp vs' fp' rz' hpf => ?_⟩
          have le : Le H1 (upd H1 p (.lst vs')) := Le.new hp
          have G2 : Good C fs1 env1 σ H1 (f2 ++ tf) := G1.sub (by rw [List.append_assoc]; exact List.sublist_append_right _ _)
          have G2' : Good C fs1 env1 σ H1 (fp' ++ tf) := G2.perm (hpf.append_right tf)
          have G3 := G2'.new (o := .lst vs') hp trivial
          refine po' (.ref p) fs1 _ (p :: fp') (by simpa using G3) ?_ ⟨p, vs', [p], fp', rfl, ⟨upd_same, rfl⟩, rz'.le le, .inl rfl, rfl⟩
          have := s1.trans (Step.grow (M := []) G1.drop le)
          simpa using this
      | _ => exact po.elim
    | _ => exact po.elim
@[simp] theorem e_cVals {env : Env} : cVals c env = (c env).bind fun d env => match d with
  | .dct .m _ ds => .ok (.lst .m ds) env
  | _ => .err := (rfl)
@[simp] theorem e_cSortM {env : Env} : cSortM c env = (c env).bind fun d env => match d with
  | .lst .m ds => if sortOkM ds then .ok (.lst .m (ds.mergeSort leD)) env else .err
  | _ => .err := (rfl)
end
end VS

set_option maxRecDepth 100000
set_option maxHeartbeats 0
namespace PySem
open Sem (wp)
open AutoSeq1 (wpAny_loadPart')
theorem meets_enumerate_newT (l : Addr) (items : Array Value) (n : Nat) (dct : Option Addr) (sl : Array (Option Value)) :
    Meets (Builtin.«enumerate.__new__» ⟨[.type "enumerate", .ref l], []⟩) (fun _ R s => s.heap.get? l = some { cls := .type "tuple", dict := dct, data := .seq items n, slots := sl } ∧
      R (.ok (.ret (.ref (s.heap.push { cls := .type "tuple_iterator", data := .fields #[.ref l, .int 0 0] }).objs.size)))
        { s with heap := (s.heap.push { cls := .type "tuple_iterator", data := .fields #[.ref l, .int 0 0] }).push { cls := .type "enumerate", data := .fields #[.none, .bool false, .ref s.heap.objs.size, rawInt 0, .none, .none] } }) :=
  .of_wp fun prog w A R s h => by
    obtain ⟨hp, g, d, tk, os⟩ := s; obtain ⟨hl, h⟩ := h
    have hsub := sub_enumerate
    have hL : Heap.IsTuple (Shared.heap ⟨hp, g, d, tk, os⟩) l items := ⟨_, hl, rfl, n, rfl⟩
    wp_walk using wpAny_loadPart' hl
    refine wpAny_stack_any fun st => wpAny_pure ?_
    split
    · rename_i c _ _ _ _ _
      cases (c == Value.type "enumerate")
      · wp_walk using wpAny_loadPart' hl, wpAny_pyIter_tuple hL
        exact ⟨_, rfl, h⟩
      · wp_walk using wpAny_loadPart' hl, wpAny_pyIter_tuple hL
        exact ⟨_, rfl, h⟩
    · wp_walk using wpAny_loadPart' hl, wpAny_pyIter_tuple hL
      exact ⟨_, rfl, h⟩
section
variable {prog : Program} {w : World} {A : Around} {E : Value → Shared → Prop} {s : Shared}
theorem call_enumerate_tuple {l : Addr} {items : Array Value} {Q : Value → Shared → Prop} (hL : s.heap.IsTuple l items)
    (h : ∀ h', IsEnum h' (s.heap.objs.size + 1) s.heap.objs.size 0 .none → h'.IsTupleIter s.heap.objs.size l 0 → h'.objs.size = s.heap.objs.size + 2 →
      (∀ b o, s.heap.get? b = some o → h'.get? b = some o) → Q (.ref (s.heap.objs.size + 1)) { s with heap := h' }) :
    wpAny (model prog w) A (call (.type "enumerate") [.ref l]) Q E s := by
  obtain ⟨⟨c, dct, dt, sl⟩, hl, hc, n, hd⟩ := hL
  replace hc : c = .type "tuple" := hc
  replace hd : dt = .seq items n := hd
  subst hc hd
  refine callType_new F.called_enumerate (by decide) (F.typeCall_enumerate_1 _) (F.newCall_enumerate_1 _) (fun obj => F.args_object_init_2 obj _) F.entry_enumerate_new
    (meets_enumerate_newT l items n dct sl) ⟨hl, ?_⟩
  have hz : (s.heap.push { cls := .type "tuple_iterator", data := .fields #[.ref l, .int 0 0] }).objs.size = s.heap.objs.size + 1 := Heap.size_push ..
  show _ ∧ _
  rw [hz]
  have he : IsEnum ((s.heap.push { cls := .type "tuple_iterator", data := .fields #[.ref l, .int 0 0] }).push
      { cls := .type "enumerate", data := .fields #[.none, .bool false, .ref s.heap.objs.size, rawInt 0, .none, .none] }) (s.heap.objs.size + 1) s.heap.objs.size 0 .none := by
    have := Heap.get?_push_size (s.heap.push { cls := .type "tuple_iterator", data := .fields #[.ref l, .int 0 0] })
      (o := { cls := .type "enumerate", data := .fields #[.none, .bool false, .ref s.heap.objs.size, rawInt 0, .none, .none] }) rfl
    rw [hz] at this; exact this
  refine ⟨⟨_, he, rfl⟩, h _ he ⟨_, Heap.get?_push_of_some _ (Heap.get?_push_size _ rfl), rfl, rfl⟩ (by rw [Heap.size_push, hz]) fun b o x => Heap.get?_push_of_some _ (Heap.get?_push_of_some _ x)⟩
end
end PySem
namespace VS
open PySem L2 SeqAt PySem.Spec PyProof.Rows
def IteT (K : PySem.W.Frag) (a : Addr) : It :=
  ⟨fun i H => ∃ (xs : List V) (x : V), SqT K H a xs ∧ xs[i]? = some x, fun i H v H' => ∃ T x, v = .ref T ∧ H T = none ∧ H' = upd H T (.tup [.int (i : Nat), x]) ∧ ∀ xs, SqT K H a xs → xs[i]? = some x, fun i H => ∃ xs : List V, SqT K H a xs ∧ xs.length ≤ i⟩
theorem turn_enumT {P : Program} {w : World} {K : PySem.W.Frag} {elts : List Expr} {kk : Nat} {tpos : Pos} (a e it : Addr) :
    Turn P w K (.Tuple elts kk tpos) (IteT K a) [e, it] e (fun i h => (∃ old, IsEnum h e it ((i : Nat) : Int) old) ∧ h.IsTupleIter it a i ∧ e ≠ it) where
  mem := by simp
  obj := fun i h st b hb => by
    obtain ⟨⟨old, he⟩, ⟨o, ho, hc, hd⟩, _⟩ := st
    have e' : b = e ∨ b = it := by simpa using hb
    rcases e' with z | z
    · rw [z]; exact ⟨_, he, fun v q => nomatch q⟩
    · rw [z]; exact ⟨o, ho, fun v q => by rw [hd] at q; cases q⟩
  keep := fun i h h' st k => let ⟨⟨old, he⟩, hi, hne⟩ := st; ⟨⟨old, k e (by simp) _ he⟩, hi.at fun o q => k it (by simp) o q, hne⟩
  item := by
    intro X hP hw hK hc i pins s σ H E I hf st hg
    subst hP hw hK
    obtain ⟨⟨old, he⟩, hit, hne⟩ := st
    obtain ⟨xs, x, hq, hx⟩ := hg
    obtain ⟨its, rv, p, hz⟩ := I.tuple hq
    obtain ⟨u, hu, ru⟩ := rv.get hx
    have hel : e < s.heap.objs.size := Heap.lt_size he
    have hil : it < s.heap.objs.size := by obtain ⟨_, q, _⟩ := hit; exact Heap.lt_size q
    have pT : s.heap.IsTuple a its.toArray := p
    have hai : a ≠ it := by
      rintro rfl
      obtain ⟨o1, q1, c1, _⟩ := hit
      obtain ⟨o2, q2, c2, _⟩ := pT
      rw [q1] at q2; cases q2; rw [c1] at c2; exact absurd c2 (by decide)
    have hae : a ≠ e := by
      rintro rfl
      obtain ⟨o2, q2, c2, _⟩ := pT
      rw [he] at q2; cases q2; exact absurd (show Value.type "enumerate" = Value.type "tuple" from c2) (by decide)
    have hlt : i < its.toArray.size := by
      have := (List.getElem?_eq_some_iff.mp hu).1
      simpa using this
    have D := PySem.Draws.tuple (prog := X.prog) (w := X.w) (A := X.A.in1) (I.ok.hd hc) it a hai its.toArray
    refine wpAny_pyNext_enum_itemD D he ⟨hit, pT⟩ hlt hne (by simp [hne, Ne.symm hae]) fun x' h' tk hP ho hst hT hsz hk => ?_
    have hxu : x' = u := by
      have : its.toArray[i]? = some x' := hP
      rw [List.getElem?_toArray, hu] at this
      exact (Option.some.inj this).symm
    subst hxu
    refine ⟨_, rfl, wpAny_letOwnedTupleGo_enum (s := { s with heap := h', toks := tk + 1 }) ho fun h'' he' sb => ?_⟩
    have hT2 : h''.get? s.heap.objs.size = some { cls := .type "tuple", data := .seq #[.int i tk, x'] } := (sb.2 _ (Nat.ne_of_gt hel)).trans hT
    have new : ObjOk X.prog X.w (upd H s.heap.objs.size (.tup [.int (i : Nat), x])) h'' s.heap.objs.size (.tup [.int (i : Nat), x]) :=
      ⟨by show 2 ≤ sizeLine; decide, [.int i tk, x'], .cons ⟨_, rfl⟩ (.cons ru .nil), ⟨_, hT2, rfl, _, rfl⟩⟩
    have I1 : Inv X pins σ (upd H s.heap.objs.size (.tup [.int (i : Nat), x])) { s with heap := h'', toks := tk + 1 } :=
      I.turnedNew (ch := [e, it]) (fun b ob hb q => (sb.2 b (fun z => hb (by simp [z]))).trans (hk b ob (fun z => hb (by simp [z])) (fun z => hb (by simp [z])) q)) hf (Nat.le_refl _) new
    refine ⟨.ref s.heap.objs.size, _, I1, rfl, ⟨_, x, rfl, I.hok.fresh (Nat.le_refl _), rfl, fun ys hy => by rw [I.tuple_inj hy hq]; exact hx⟩, ⟨⟨x', ?_⟩, hst.1.at fun o q => (sb.2 it (Ne.symm hne)).trans q, hne⟩, fun b hb => ?_⟩
    · have e1 : ((i + 1 : Nat) : Int) = (i : Int) + 1 := by omega
      rw [e1]; exact he'
    · have hb' : b < s.heap.objs.size := by
        have e' : b = e ∨ b = it := by simpa using hb
        rcases e' with z | z
        · rw [z]; exact hel
        · rw [z]; exact hil
      rw [upd_ne (Nat.ne_of_lt hb')]
      exact (hf b hb).1
  done := by
    intro X hP hw hK hc i pins s σ H E I hf st hg
    subst hP hw hK
    obtain ⟨⟨old, he⟩, hit, hne⟩ := st
    obtain ⟨xs, hq, hx⟩ := hg
    obtain ⟨its, rv, p, hz⟩ := I.tuple hq
    obtain ⟨f0, f1, f2, f3, f4, f5⟩ := hf it (by simp)
    have pT : s.heap.IsTuple a its.toArray := p
    have hl := rv.length
    have hT : s.TypeIs (.ref e) "enumerate" := ⟨_, he, rfl⟩
    unfold pyNext
    refine wpAny_bind (wpAny_attempt (wpAny_callSpecial?_slot (name := Str.ofString "__next__") hT F.slot_enumerate_next
      (wpAny_call_entry F.slot_enumerate_next hT F.entry_enumerate_next ?_ (F.args_enumerate_next_1 _))))
    show wpAny _ _ (field (.ref e) 2 >>= _) _ _ _
    refine wpAny_bind (wpAny_field he rfl (x := .ref it) rfl ?_)
    refine wpAny_bind (PySem.wpAny_nextOf_tuple_end (I.ok.hd hc) hit pT (by simp; omega) fun h' x he' hx' => ?_)
    obtain ⟨o, ho, hcc⟩ := hx'
    refine wpAny_bind (wpAny_isInstance (T := "StopIteration") (b := true) ⟨o, ho, hcc⟩ isSubtype_stop ?_)
    exact wpAny_pure ⟨rfl, I.turned (t' := s.toks) (fun b o hb q => he' b o hb q) f0 f1 f3 f4 f5⟩
  self := fun A i s Q E st h => let ⟨⟨_, he⟩, _⟩ := st; wpAny_pyIter_enum he h
def iEnumT (K : PySem.W.Frag) (ta : TA) : TI := fun σ H R => ta σ H fun vs H1 => ∃ a xs, vs = [.ref a] ∧ SqT K H1 a xs ∧ R (IteT K a) H1
theorem pi_enumT {X : Cx} {e : Expr} {ta : TA} {p pos tpos : Pos} {elts : List Expr} {kk : Nat} (hg : Gl X "enumerate") (hm : X.mg "enumerate" = none) (ha : PA X [e] ta) (hs : starEach [e] X.env = [(false, eval e X.env)] := by rfl) :
    PI X (.Tuple elts kk tpos) (.Call (.Name "enumerate" p) [e] [] pos) (iEnumT X.K ta) := by
  refine ⟨fun pins s σ H R I h => ?_⟩
  refine Call_ (ld_blt I hg hm boot_enumerate (PyProof.Rows.callWith_type1 (thn (ha.run pos pins s σ H _ I h) fun us s1 ⟨vs, H1, I1, r1, q1⟩ => ?_) hs rfl))
  obtain ⟨a, xs, ex, hq, q⟩ := q1
  subst ex
  cases r1 with
  | cons r rr =>
    cases rr
    cases r
    obtain ⟨its, rv, p', hz⟩ := I1.tuple hq
    refine PySem.call_enumerate_tuple (show s1.heap.IsTuple a its.toArray from p') fun h' he hit hsz hk => wpAny_pyIter_enum he ?_
    have I2 : Inv X pins σ H1 { s1 with heap := h' } := I1.kept (t' := s1.toks) hk
    refine ⟨s1.heap.objs.size + 1, [s1.heap.objs.size + 1, s1.heap.objs.size], _, _, H1, rfl, I2, turn_enumT a (s1.heap.objs.size + 1) s1.heap.objs.size, ⟨⟨.none, he⟩, hit, Nat.succ_ne_self _⟩, fun b hb => ?_, q⟩
    have e' : b = s1.heap.objs.size + 1 ∨ b = s1.heap.objs.size := by simpa using hb
    have hle : s1.heap.objs.size ≤ b := by
      rcases e' with z | z
      · rw [z]; exact Nat.le_add_right _ _
      · rw [z]; exact Nat.le_refl _
    exact I1.fpOk hle (I1.hok.fresh hle)
/-- enumerate over a list or a tuple -/
def iEnumG (c : CE) : CA := fun env => (c env).bind fun d env => match d with
  | .lst _ ds => if imms ds then .ok (numD 0 ds) env else .err
  | .tup ds => if imms ds then .ok (numD 0 ds) env else .err
  | _ => .err
section
variable {X : Cx} {W : WX} {M Rs : List Nat} {e tg : Expr} {ca : CE} {pos p : Pos}
theorem walk_enumT {K : PySem.W.Frag} {a : Addr} {xs : List V} : Walk (IteT K a) xs.length (fun H => SqT K H a xs) (YPair (fun i => some (.int (i : Nat))) (fun i => xs[i]?)) := by
  refine ⟨fun i _ hi q => ⟨xs, xs[i], q, by simp [hi]⟩, fun _ q => ⟨xs, q, Nat.le_refl _⟩, fun i H v H' _ q y => ?_⟩
  obtain ⟨T, x, h1, h2, h3, h4⟩ := y
  exact ⟨T, .int (i : Nat), x, h1, h2, h3, rfl, h4 xs q⟩
def iEnumTD (c : CE) : CA := fun env => (c env).bind fun d env => match d with
  | .tup ds => if imms ds then .ok (numD 0 ds) env else .err
  | _ => .err
theorem si_enumT {elts : List Expr} {kk : Nat} {tpos p2 : Pos} (hg : Gl X "enumerate") (hm : X.mg "enumerate" = none) (h : SB X W M Rs e ca) (hs : starEach [e] X.env = [(false, eval e X.env)] := by rfl) : SI X W M Rs (.Tuple elts kk tpos) (.Call (.Name "enumerate" p2) [e] [] pos) (iEnumTD ca) := by
  obtain ⟨t, p, q⟩ := h.go
  refine ⟨iEnumT X.K (tCons t tNil), pi_enumT hg hm (pa_cons p pa_nil hs) hs, fun C fs env σ H tf Q hC G po => ?_⟩
  show t σ H fun x H1 => _
  refine q C fs env σ H tf _ hC G ?_
  unfold iEnumTD at po
  cases e1 : ca env with
  | err => rw [e1] at po; exact po
  | ex x env' => rw [e1] at po; exact po
  | ok d env1 =>
    rw [e1] at po
    intro v fs1 H1 fp own G1 s1 r1 i1
    cases d with
    | tup ds =>
      have po' : PostI W C M Rs tf fs env σ H Q (if imms ds then .ok (numD 0 ds) env1 else .err) := po
      by_cases hi : imms ds = true
      · rw [if_pos hi] at po'
        obtain ⟨a, vs, rfl, sq, rs, kp⟩ := src_tup hC r1 hi
        refine ⟨a, vs, rfl, sq, po' _ fs1 H1 fp own G1 s1 ⟨?_⟩ i1⟩
        rw [numD_len, reps_length rs]
        refine Walk.mono (walk_enumT (K := X.K) (a := a) (xs := vs)) (fun H2 h2 => (kp H2 h2).1) fun i H2 x H3 hi2 h2 ⟨T, y, z, e1, e2, e3, e4, e5⟩ => ?_
        subst e1 e3
        cases e4
        obtain ⟨d, h1, h3⟩ := reps_imm_get (kp H2 h2).2 hi e5
        have le := Le.new (o := .tup [.int (i : Nat), z]) e2
        refine ⟨le, .tup [.int (i : Nat), d], by rw [numD_get, h1]; simp, T, _, rfl, SqT.of upd_same, .int (i : Nat), [z], [], [], rfl, ⟨rfl, rfl⟩, ⟨z, [], [], [], rfl, h3.le le, ⟨rfl, rfl⟩, rfl⟩, rfl⟩
      · rw [if_neg hi] at po'; exact po'.elim
    | _ => exact po.elim
theorem si_enumG {elts : List Expr} {kk : Nat} {tpos p2 : Pos} (hg : Gl X "enumerate") (hm : X.mg "enumerate" = none) (h : SB X W M Rs e ca) (hs : starEach [e] X.env = [(false, eval e X.env)] := by rfl) : SI X W M Rs (.Tuple elts kk tpos) (.Call (.Name "enumerate" p2) [e] [] pos) (iEnumG ca) := by
  obtain ⟨t, p, q⟩ := (si_enum (elts := elts) (kk := kk) (tpos := tpos) (p2 := p2) (pos := pos) hg hm h hs).go
  obtain ⟨t2, p2, q2⟩ := (si_enumT (elts := elts) (kk := kk) (tpos := tpos) (p2 := p2) (pos := pos) hg hm h hs).go
  refine ⟨_, pi_or p p2, fun C fs env σ H tf Q hC G po => ?_⟩
  unfold iEnumG at po
  cases e1 : ca env with
  | err => rw [e1] at po; exact po.elim
  | ex x env' =>
    refine .inl (q C fs env σ H tf Q hC G ?_)
    unfold iEnumD
    rw [e1] at po ⊢
    exact po
  | ok d env1 =>
    rw [e1] at po
    cases d with
    | lst g ds =>
      refine .inl (q C fs env σ H tf Q hC G ?_)
      unfold iEnumD
      rw [e1]
      exact po
    | tup ds =>
      refine .inr (q2 C fs env σ H tf Q hC G ?_)
      unfold iEnumTD
      rw [e1]
      exact po
    | _ => exact po.elim
@[simp] theorem e_enumG {env : Env} : iEnumG ca env = (ca env).bind fun d env => match d with
  | .lst _ ds => if imms ds then .ok (numD 0 ds) env else .err
  | .tup ds => if imms ds then .ok (numD 0 ds) env else .err
  | _ => .err := (rfl)
end
end VS

set_option maxRecDepth 100000
namespace VS
open PySem L2 SeqAt PySem.Spec PyProof.Rows
/-! ### a statement during which what lies in one cell is only looked at -/
def okN (js : List Nat) (env : Env) : Bool := js.all fun j => match env[j]? with
  | some (some d) => d.nol
  | _ => true
def lendEnd (i : Nat) (d : D) (js : List Nat) : O → O
  | .nx env => if okN js env then .nx (env.set i (some d)) else .err
  | .rt r env => if r.nol && okN js env then .rt r (env.set i (some d)) else .err
  | .bk env => if okN js env then .bk (env.set i (some d)) else .err
  | .ct env => if okN js env then .ct (env.set i (some d)) else .err
  | .ex x env => if okN js env then .ex x (env.set i (some d)) else .err
  | .err => .err
def sLend (i : Nat) (js : List Nat) (c : CS) : CS := fun env => match env[i]? with
  | some (some d) => lendEnd i d js (c (env.set i (some d.lend)))
  | _ => .err
section
variable {X : Cx} {W : WX} {M Vs : List Nat} {st : Stmt} {c : CS} {C : Ctx} {fs : FPs} {env : Env} {σ : L2.St} {H : Hp} {tf : List Addr} {i : Nat} {d : D}
def ctxL (C : Ctx) (fs : FPs) (i : Nat) (tf : List Addr) (H : Hp) : Ctx := ⟨C.K, C.mg, H, (fs.set i []).flatten ++ tf, C.Lk⟩
theorem lend_in (G : Good C fs env σ H tf) (e : env[i]? = some (some d)) : Enter C (ctxL C fs i tf H) H ∧ (∀ a ∈ fs.getD i [], a ∉ (ctxL C fs i tf H).A) ∧ Good (ctxL C fs i tf H) (fs.set i []) (env.set i (some d.lend)) σ H tf := by
  obtain ⟨v, ev, r⟩ := G.rep i d e
  have hi : i < fs.length := by
    have := (List.getElem?_eq_some_iff.mp e).1
    have h1 := G.le; have h2 := G.lf; omega
  have p2 := flat_get fs hi
  have nd : (fs.getD i [] ++ ((fs.set i []).flatten ++ tf)).Nodup := by
    rw [← List.append_assoc]; exact (p2.append_right tf).nodup_iff.mp G.nd
  have sub : ∀ a ∈ (fs.set i []).flatten ++ tf, a ∈ fs.flatten ++ tf := fun a ha => by
    rcases List.mem_append.mp ha with z | z
    · exact List.mem_append_left _ (p2.mem_iff.mpr (List.mem_append_right _ z))
    · exact List.mem_append_right _ z
  have E : Enter C (ctxL C fs i tf H) H := ⟨rfl, rfl, rfl, rfl, G.fr, fun x hx => ⟨G.own x (sub x hx), G.trk x (sub x hx)⟩⟩
  have hd : ∀ a ∈ fs.getD i [], a ∉ (ctxL C fs i tf H).A := fun a ha hm => (List.nodup_append.mp nd).2.2 a ha a hm rfl
  refine ⟨E, hd, by simpa using G.le, by simpa using G.lf, fun j dj ej => ?_, (List.nodup_append.mp nd).2.1, fun a ha => .inl ha, fun a ha => G.trk a (sub a ha), fun a o ea na => .inl ea, G.lk⟩
  rw [List.getElem?_set] at ej
  by_cases hj : i = j
  · subst hj
    have hl : i < env.length := (List.getElem?_eq_some_iff.mp e).1
    simp [hl] at ej
    subst ej
    refine ⟨v, ev, ?_⟩
    rw [getD_set _ _ _ _ hi, if_pos rfl]
    exact r.lend E hd
  · rw [if_neg hj] at ej
    obtain ⟨w, ew, rw'⟩ := G.rep j dj ej
    refine ⟨w, ew, ?_⟩
    rw [getD_set _ _ _ _ hi, if_neg (fun z => hj z.symm)]
    exact rw'.enter E
theorem lend_out {fs' : FPs} {env' : Env} {σ' : L2.St} {H' : Hp} {fp : List Addr} {js : List Nat} (G : Good C fs env σ H tf) (e : env[i]? = some (some d)) (hM : i ∉ M) (hV : i ∉ Vs) (hj : ∀ j, j ∈ M ∨ j ∈ Vs → j ∈ js)
    (G' : Good (ctxL C fs i tf H) fs' env' σ' H' (fp ++ tf)) (s : StepS M Vs tf (fs.set i []) (env.set i (some d.lend)) σ H fs' env' σ' H') (ok : okN js env' = true) :
    Good C (fs'.set i (fs.getD i [])) (env'.set i (some d)) σ' H' (fp ++ tf) ∧ StepS M Vs tf fs env σ H (fs'.set i (fs.getD i [])) (env'.set i (some d)) σ' H' := by
  obtain ⟨E, hd, G1⟩ := lend_in G e
  obtain ⟨v, ev, r⟩ := G.rep i d e
  have hie : i < env.length := (List.getElem?_eq_some_iff.mp e).1
  have hi : i < fs.length := by have h1 := G.le; have h2 := G.lf; omega
  have hev : i < σ.length := by have h1 := G.le; omega
  have hv' := s.v i hV
  have hi' : i < σ'.length := by
    rw [ev] at hv'; exact (List.getElem?_eq_some_iff.mp hv').1
  have hif : i < fs'.length := by have := G'.lf; omega
  have fe : fs'.getD i [] = [] := by
    have := s.s.f i hM
    rw [getD_set _ _ _ _ hi, if_pos rfl] at this; exact this
  have fset : fs'.set i [] = fs' := by
    rw [List.getD_eq_getElem?_getD, List.getElem?_eq_getElem hif] at fe
    simp at fe
    rw [← fe]; simp
  have p1 := flat_set fs' hif (fs.getD i [])
  rw [fset] at p1
  have p2 := flat_get fs hi
  -- what is lent stays
  have keep : ∀ a ∈ fs.getD i [], H' a = H a := fun a ha => by
    obtain ⟨o, ea, mu⟩ := r.trk a ha
    rcases G'.fr a o ea (hd a ha) with q | ⟨q1, _, ob, q⟩
    · rw [q, ea]
    · obtain ⟨ob2, u, z⟩ := G.lk a q1
      rw [ea] at z; cases z; exact mu.elim
  have apart : ∀ a ∈ fs.getD i [], a ∉ fs'.flatten ++ (fp ++ tf) := fun a ha hm => by
    obtain ⟨o, ea, mu⟩ := r.trk a ha
    rcases G'.own a hm with z | z
    · exact hd a ha z
    · have z' : H a = none := z
      rw [ea] at z'; cases z'
  have pp : ((fs'.set i (fs.getD i [])).flatten ++ (fp ++ tf)).Perm (fs.getD i [] ++ (fs'.flatten ++ (fp ++ tf))) := by
    have := p1.append_right (fp ++ tf); rwa [List.append_assoc] at this
  have frC : Fr C H' := fun a o ea na => by
    rcases G.fr a o ea na with q | ⟨q1, q2, ob, q⟩
    · by_cases hA : a ∈ (ctxL C fs i tf H).A
      · rcases (E.a a hA).1 with z | z
        · exact absurd z na
        · rw [ea] at z; cases z
      · rcases G'.fr a o q hA with z | ⟨z1, z2, z3⟩
        · exact .inl z
        · exact .inr ⟨z1, z2, z3⟩
    · exact .inr ⟨q1, q2, ob, s.s.m.z _ _ _ q⟩
  have ownC : ∀ a, (a ∈ (ctxL C fs i tf H).A ∨ H a = none) → a ∈ C.A ∨ C.H0 a = none := fun a ha => by
    rcases ha with z | z
    · exact (E.a a z).1
    · exact G.fr.fresh z
  refine ⟨⟨by have := G'.le; simpa using this, by have := G'.lf; simpa using this, fun j dj ej => ?_, pp.nodup_iff.mpr (List.nodup_append.mpr ⟨?_, G'.nd, fun a ha b hb e => apart a ha (e ▸ hb)⟩), fun a ha => ?_, fun a ha => ?_, frC, G'.lk⟩, ⟨⟨s.s.t, fun j hj' => ?_, fun j hj' => ?_, fun j hj' a ha => ?_, s.s.m⟩, s.v⟩⟩
  · rw [List.getElem?_set] at ej
    by_cases hij : i = j
    · subst hij
      have hl : i < env'.length := by have := G'.le; omega
      simp [hl] at ej
      subst ej
      refine ⟨v, by rw [hv']; exact ev, ?_⟩
      rw [getD_set _ _ _ _ hif, if_pos rfl]
      exact r.keep keep s.s.m
    · rw [if_neg hij] at ej
      rw [getD_set _ _ _ _ hif, if_neg (fun z => hij z.symm)]
      by_cases hjs : j ∈ js
      · obtain ⟨w, ew, rw'⟩ := G'.rep j dj ej
        have hn := List.all_eq_true.mp ok j hjs
        rw [ej] at hn
        exact ⟨w, ew, Rep.leave (C := C) (C' := ctxL C fs i tf H) rfl rfl rfl rw' hn⟩
      · have hjM : j ∉ M := fun z => hjs (hj j (.inl z))
        have hjV : j ∉ Vs := fun z => hjs (hj j (.inr z))
        have e1 := s.s.e j hjM
        rw [ej, List.getElem?_set, if_neg hij] at e1
        obtain ⟨w, ew, rw'⟩ := G.rep j dj e1.symm
        have e2 := s.s.f j hjM
        rw [getD_set _ _ _ _ hi, if_neg (fun z => hij z.symm)] at e2
        refine ⟨w, by rw [s.v j hjV]; exact ew, ?_⟩
        rw [e2]
        refine rw'.keep (fun a ha => ?_) s.s.m
        exact s.s.h j hjM a (by rw [getD_set _ _ _ _ hi, if_neg (fun z => hij z.symm)]; exact ha)
  · have := (p2.append_right tf).nodup_iff.mp G.nd
    rw [List.append_assoc] at this
    exact (List.nodup_append.mp this).1
  · rcases List.mem_append.mp (pp.mem_iff.mp ha) with z | z
    · exact G.own a (List.mem_append_left _ (mem_flat z))
    · exact ownC a (G'.own a z)
  · rcases List.mem_append.mp (pp.mem_iff.mp ha) with z | z
    · rw [keep a z]; exact r.trk a z
    · exact G'.trk a z
  · rw [getD_set _ _ _ _ hif]
    by_cases hij : j = i
    · subst hij; simp
    · rw [if_neg hij]
      have := s.s.f j hj'
      rw [getD_set _ _ _ _ hi, if_neg hij] at this; exact this
  · rw [List.getElem?_set]
    by_cases hij : i = j
    · subst hij
      have hl : i < env'.length := by have := G'.le; omega
      simp [hl, e]
    · rw [if_neg hij]
      have := s.s.e j hj'
      rw [List.getElem?_set, if_neg hij] at this; exact this
  · by_cases hij : j = i
    · subst hij; exact keep a ha
    · exact s.s.h j hj' a (by rw [getD_set _ _ _ _ hi, if_neg hij]; exact ha)
theorem ss_lend (i : Nat) (js : List Nat) (h : SS X W M Vs st c) (hM : i ∉ M ∧ i ∉ Vs := by decide) (hj : ∀ j ∈ M ++ Vs, j ∈ js := by decide) : SS X W M Vs st (sLend i js c) := by
  obtain ⟨t, p, q⟩ := h.go
  have hj' : ∀ j, j ∈ M ∨ j ∈ Vs → j ∈ js := fun j z => hj j (List.mem_append.mpr z)
  refine ⟨t, p, fun C fs env σ H tf E hC G po => ?_⟩
  unfold sLend at po
  cases e1 : env[i]? with
  | none => rw [e1] at po; exact po.elim
  | some od =>
    cases od with
    | none => rw [e1] at po; exact po.elim
    | some d =>
      rw [e1] at po
      simp only at po
      obtain ⟨En, hd, G1⟩ := lend_in G e1
      refine q (ctxL C fs i tf H) (fs.set i []) (env.set i (some d.lend)) σ H tf E hC G1 ?_
      cases e2 : c (env.set i (some d.lend)) with
      | err => rw [e2] at po; exact po.elim
      | nx env' =>
        rw [e2] at po
        intro fs' σ' H' G' s
        cases ok : okN js env' with
        | false => simp only [lendEnd, ok] at po; exact po.elim
        | true =>
          simp only [lendEnd, ok, if_true] at po
          obtain ⟨a, b⟩ := lend_out (fp := []) G e1 hM.1 hM.2 hj' (by simpa using G') s ok
          exact po _ _ _ (by simpa using a) b
      | rt r env' =>
        rw [e2] at po
        intro v fs' σ' H' fp G' s rr
        cases ok : (r.nol && okN js env') with
        | false => simp only [lendEnd, ok] at po; exact po.elim
        | true =>
          simp only [lendEnd, ok, if_true] at po
          obtain ⟨o1, o2⟩ := Bool.and_eq_true_iff.mp ok
          obtain ⟨a, b⟩ := lend_out G e1 hM.1 hM.2 hj' G' s o2
          exact po _ _ _ _ _ a b (Rep.leave (C := C) (C' := ctxL C fs i tf H) rfl rfl rfl rr o1)
      | bk env' =>
        rw [e2] at po
        intro fs' σ' H' G' s
        cases ok : okN js env' with
        | false => simp only [lendEnd, ok] at po; exact po.elim
        | true =>
          simp only [lendEnd, ok, if_true] at po
          obtain ⟨a, b⟩ := lend_out (fp := []) G e1 hM.1 hM.2 hj' (by simpa using G') s ok
          exact po _ _ _ (by simpa using a) b
      | ct env' =>
        rw [e2] at po
        intro fs' σ' H' G' s
        cases ok : okN js env' with
        | false => simp only [lendEnd, ok] at po; exact po.elim
        | true =>
          simp only [lendEnd, ok, if_true] at po
          obtain ⟨a, b⟩ := lend_out (fp := []) G e1 hM.1 hM.2 hj' (by simpa using G') s ok
          exact po _ _ _ (by simpa using a) b
      | ex x env' =>
        rw [e2] at po
        intro cv dd fs' σ' H' G' s xx
        cases ok : okN js env' with
        | false => simp only [lendEnd, ok] at po; exact po.elim
        | true =>
          simp only [lendEnd, ok, if_true] at po
          obtain ⟨a, b⟩ := lend_out (fp := []) G e1 hM.1 hM.2 hj' (by simpa using G') s ok
          exact po _ _ _ _ _ (by simpa using a) b (ExIs.leave (C := C) (C' := ctxL C fs i tf H) rfl rfl rfl xx)
end
@[simp] theorem e_lendS (i : Nat) (js : List Nat) (c : CS) (env : Env) : sLend i js c env = match env[i]? with
  | some (some d) => lendEnd i d js (c (env.set i (some d.lend)))
  | _ => .err := (rfl)
end VS

set_option maxRecDepth 100000
namespace VS
open PySem L2 SeqAt PySem.Spec PyProof.Rows
/-! ### a method with one argument that only looks -/
def cMt (kd : D → Bool) (p : D → D → Option D) (ca cb : CE) : CE := fun env => (ca env).bind fun d env => if kd d then (cb env).bind fun y env => R.of (p d y) env else .err
section
variable {X : Cx} {W : WX} {M1 M2 R1 R2 : List Nat} {o e : Expr} {ca cb : CE} {pos apos : Pos} {T id : String} {name : Str} {r : V → List V → Hp → VK → Prop} {kd : D → Bool} {p : D → D → Option D}
structure LkOk (X : Cx) (T : String) (r : V → List V → Hp → VK → Prop) (kd : D → Bool) (p : D → D → Option D) : Prop where
  run : ∀ C H x y dx dy fx fy d Q, C.At X → Fr C H → Rep C H dx x fx → Rep C H dy y fy → p dx dy = some d → Comes C H d Q → r x [y] H Q
  ty : ∀ C H v d fp, C.At X → Fr C H → Rep C H d v fp → kd d = true → tyV X.K T v H
theorem so_mt1 (lk : LkOk X T r kd p) (pa : PlainAttrs T) (slot : Slot T name id) (hty : typeOf (.builtin id) = pure (.type "method_descriptor")) (hm : MtR X id r) (ha : SB X W M1 R1 o ca) (hb : SB X W M2 R2 e cb) (hd : djB R1 M2 = true)
    (hbase : attributeBase o name X.env (eval o X.env) = eval o X.env)
    (hfew : ((backTo pos (starEach [e] X.env)).all (fun x => !x.1) && (backToKw pos (keywordEach [] X.env)).all (fun x => x.1.isSome)
      && decide ([e].length + ([] : List Keyword).length + (if ([] : List Keyword).isEmpty then 0 else 1) < 30)) = true)
    (hline : (apos.endLine == pos.line) = true) (hs : starEach [e] X.env = [(false, eval e X.env)]) : SO X W (M1 ++ M2) (.Call (.Attribute o name apos) [e] [] pos) (cMt kd p ca cb) := by
  obtain ⟨t, pe, q⟩ := ha.go
  obtain ⟨t2, pe2, q2⟩ := hb.go
  refine ⟨_, pe_bm pa slot hty hm pe (pa_cons pe2 pa_nil hs) hbase hfew hline hs (by rfl), fun C fs env σ H tf Q hC G po => ?_⟩
  show t σ H fun x H1 => tyV X.K T x H1 ∧ t2 σ H1 fun y H2 => r x [y] H2 Q
  refine q C fs env σ H tf _ hC G ?_
  unfold cMt at po
  cases e1 : ca env with
  | err => rw [e1] at po; exact po
  | ex x env' => rw [e1] at po; exact fun cv dd fs' H' G' s => po cv dd fs' H' G' (s.weak (fun i hi => List.mem_append_left _ hi) fun _ z => z)
  | ok d env1 =>
    rw [e1] at po
    intro v fs1 H1 fp1 own1 G1 s1 r1 i1
    simp only [R.bind] at po
    cases hk : kd d with
    | false => simp only [hk] at po; exact po.elim
    | true =>
      simp only [hk, if_true] at po
      refine ⟨lk.ty C H1 v d fp1 hC G1.fr r1 hk, q2 C fs1 env1 σ H1 (own1 ++ tf) _ hC G1 ?_⟩
      cases e2 : cb env1 with
      | err => rw [e2] at po; exact po
      | ex x env' =>
        rw [e2] at po
        exact fun cv dd fs' H' G' s => po cv dd fs' H' G'.drop (s1.trans (s.weak (fun _ z => z) fun x hx => List.mem_append_right _ hx))
      | ok y env2 =>
        rw [e2] at po
        intro w fs2 H2 fp2 own2 G2 s2 r2 i2
        have po' : PostO W C (M1 ++ M2) tf fs env σ H Q (R.of (p d y) env2) := po
        cases e3 : p d y with
        | none => rw [e3] at po'; exact po'.elim
        | some z =>
          rw [e3] at po'
          have G3 : Good C fs2 env2 σ H2 ((own2 ++ own1) ++ tf) := by rw [List.append_assoc]; exact G2
          have s3 := s1.trans (s2.weak (fun _ z => z) fun x hx => List.mem_append_right own1 hx)
          exact lk.run C H2 v w d y fp1 fp2 z Q hC G2.fr (r1.keep (i1.keep s2 (djB_ok hd)) s2.m) r2 e3 (comes_post (own := own2 ++ own1) G3 s3 po')
/-! list.index -/
def flatD : D → Bool
  | .non => true
  | .bl _ => true
  | .int _ => true
  | .str _ => true
  | _ => false
def idxD (ds : List D) (y : D) : Option Nat := match ds with
  | [] => none
  | d :: ds => if pyEq d y then some 0 else (idxD ds y).map (· + 1)
def pIndex : D → D → Option D
  | .lst _ ds, y => if ds.all flatD && flatD y then (idxD ds y).map fun j => .int (j : Nat) else none
  | _, _ => none
variable {C : Ctx} {H : Hp}
theorem flatR {d : D} {v : V} {fp : List Addr} (r : Rep C H d v fp) (h : flatD d = true) : flatV v = true ∧ ∀ {e : D} {w : V} {f : List Addr}, Rep C H e w f → flatD e = true → eqV v w = pyEq d e := by
  cases d with
  | non => obtain ⟨rfl, _⟩ := r; refine ⟨rfl, fun {e w f} r2 h2 => ?_⟩; cases e <;> first | (cases h2; done) | (obtain ⟨rfl, _⟩ := r2; rfl)
  | bl b => obtain ⟨rfl, _⟩ := r; refine ⟨rfl, fun {e w f} r2 h2 => ?_⟩; cases e <;> first | (cases h2; done) | (obtain ⟨rfl, _⟩ := r2; rfl)
  | int b => obtain ⟨rfl, _⟩ := r; refine ⟨rfl, fun {e w f} r2 h2 => ?_⟩; cases e <;> first | (cases h2; done) | (obtain ⟨rfl, _⟩ := r2; rfl)
  | str b => obtain ⟨rfl, _⟩ := r; refine ⟨rfl, fun {e w f} r2 h2 => ?_⟩; cases e <;> first | (cases h2; done) | (obtain ⟨rfl, _⟩ := r2; rfl)
  | _ => cases h
theorem flatsR : ∀ {ds : List D} {vs : List V} {fp : List Addr}, Reps C H ds vs fp → ds.all flatD = true → vs.all flatV = true
  | [], vs, fp, ⟨e, _⟩, _ => by subst e; rfl
  | d :: ds, vs, fp, ⟨v, vs', f1, f2, e, r, rs, _⟩, h => by
    subst e
    simp only [List.all_cons, Bool.and_eq_true] at h ⊢
    exact ⟨(flatR r h.1).1, flatsR rs h.2⟩
theorem idxR {y : D} {w : V} {f : List Addr} (ry : Rep C H y w f) (hy : flatD y = true) : ∀ {ds : List D} {vs : List V} {fp : List Addr} {j : Nat}, Reps C H ds vs fp → ds.all flatD = true → idxD ds y = some j →
    ∃ z, vs[j]? = some z ∧ eqV z w = true ∧ ∀ (m : Nat) (z' : V), m < j → vs[m]? = some z' → eqV z' w = false
  | [], vs, fp, j, _, _, h => by cases h
  | d :: ds, vs, fp, j, ⟨v, vs', f1, f2, e, r, rs, _⟩, hf, h => by
    subst e
    simp only [List.all_cons, Bool.and_eq_true] at hf
    have ev := (flatR r hf.1).2 ry hy
    unfold idxD at h
    by_cases q : pyEq d y = true
    · rw [if_pos q] at h
      cases h
      exact ⟨v, rfl, by rw [ev, q], fun m z' hm => absurd hm (by omega)⟩
    · rw [if_neg q] at h
      obtain ⟨i, hi, rfl⟩ := Option.map_eq_some_iff.mp h
      obtain ⟨z, h1, h2, h3⟩ := idxR ry hy rs hf.2 hi
      refine ⟨z, by simpa using h1, h2, fun m z' hm hz => ?_⟩
      cases m with
      | zero => simp at hz; subst hz; rw [ev]; simpa using q
      | succ m => exact h3 m z' (by omega) (by simpa using hz)
theorem lk_index : LkOk X "list" (rIndex X.K) kdL pIndex := by
  refine ⟨fun C H x y dx dy fx fy d Q hC hF r1 r2 e k => ?_, ty_list⟩
  cases dx with
  | lst g ds =>
    simp only [pIndex] at e
    split at e
    case isFalse => cases e
    rename_i hf
    rw [Bool.and_eq_true] at hf
    obtain ⟨j, hj, rfl⟩ := Option.map_eq_some_iff.mp e
    obtain ⟨a, vs, f, rfl, q, rz⟩ := rep_list hC hF r1
    obtain ⟨z, h1, h2, h3⟩ := idxR r2 hf.2 rz hf.1 hj
    exact ⟨a, vs, y, j, z, rfl, rfl, q, (flatR r2 hf.2).1, flatsR rz hf.1, h1, h2, h3, k.here ⟨rfl, rfl⟩⟩
  | _ => cases e
theorem so_index (ha : SB X W M1 R1 o ca) (hb : SB X W M2 R2 e cb) (hd : djB R1 M2 = true)
    (hbase : attributeBase o "index" X.env (eval o X.env) = eval o X.env)
    (hfew : ((backTo pos (starEach [e] X.env)).all (fun x => !x.1) && (backToKw pos (keywordEach [] X.env)).all (fun x => x.1.isSome)
      && decide ([e].length + ([] : List Keyword).length + (if ([] : List Keyword).isEmpty then 0 else 1) < 30)) = true)
    (hline : (apos.endLine == pos.line) = true) (hs : starEach [e] X.env = [(false, eval e X.env)]) : SO X W (M1 ++ M2) (.Call (.Attribute o "index" apos) [e] [] pos) (cMt kdL pIndex ca cb) :=
  so_mt1 lk_index F.plainAttrs_list F.slot_list_index F.type_list_index mt_index ha hb hd hbase hfew hline hs
@[simp] theorem e_mt {env : Env} : cMt kd p ca cb env = (ca env).bind fun d env => if kd d then (cb env).bind fun y env => R.of (p d y) env else .err := (rfl)
end
end VS

set_option maxRecDepth 100000
namespace VS
open PySem L2 SeqAt PySem.Spec PyProof.Rows
/-! ### d.update(e) -/
def rUpdD : V → List V → Hp → VK → Prop := fun x xs H Q => ∃ (d o : Addr) (kvs more : List (Key × V)), x = V.ref d ∧ xs = [V.ref o] ∧ H d = some (.dK kvs) ∧ Rd H o (.dK more) ∧ d ≠ o ∧ kvs.length + more.length ≤ sizeLine ∧ Q .non (upd H d (.dK (mergeK kvs more)))
section
variable {X : Cx}
theorem mt_updD : MtR X "dict.update" rUpdD := by
  intro pins s σ H x xs v us Q I rx rxs h
  obtain ⟨d, o, kvs, more, rfl, rfl, hd, ho, hne, hz, q⟩ := h
  obtain rfl : v = Value.ref d := rx
  obtain ⟨u, rfl, ru⟩ := vals1 rxs
  obtain rfl : u = Value.ref o := ru
  obtain ⟨z1, lo1, vs, rel, dd⟩ := dk_of I.hok hd
  obtain ⟨z2, lo2, ms, rel2, dd2⟩ := dk_rd I.hok ho
  have l1 : vs.length = kvs.length := (KV.length rel).symm
  have l2 : ms.length = more.length := (KV.length rel2).symm
  refine call_meetsIn F.slot_dict_update dd.typeIs F.entry_dict_update (F.args_dict_update_2 _ _) (meets_dict_update (mixKind X.prog X.w) d o hne lo2) ⟨vs, ms, dd, dd2, by omega, fun h' hd' ho' hs' => ?_⟩
  have rm := KV.merge rel2 rel
  have hlen : (mergeK kvs more).length ≤ sizeLine := by
    have := merged_length_le vs ms
    rw [KV.length rm]; omega
  refine ⟨.non, upd H d (.dK (mergeK kvs more)), I.write (t' := s.toks) ?_ (.inl rfl) (fun b ob hb e => (hs'.2 b hb).trans e) ?_ (show ObjOk X.prog X.w _ _ _ (.dK (mergeK kvs more)) from ⟨hlen, lo1, _, rm, hd'⟩), rfl, q⟩
  · rw [hd]; trivial
  · obtain ⟨ep, dat⟩ := hd'.dictAt
    obtain ⟨ob, es, hob, _⟩ := dat
    exact ⟨ob, hob⟩

def kdM : D → Bool
  | .dct .m _ _ => true
  | _ => false
def mUpdD : D → List D → Option (D × D)
  | .dct .m ks ds, [.dct g ks' ds'] => if (g == .m || decide (ks ≠ ks')) && imms ds && imms ds' && decide (ks'.length = ds'.length) && decide (ks.length + ks'.length ≤ sizeLine) then
      some (.dct .m ((ks'.zip ds').foldl (fun acc p => putP acc p.1 p.2) (ks, ds)).1 ((ks'.zip ds').foldl (fun acc p => putP acc p.1 p.2) (ks, ds)).2, .non) else none
  | _, _ => none
theorem ty_dict : ∀ C H v d fp, C.At X → Fr C H → Rep C H d v fp → kdM d = true → tyV X.K "dict" v H := by
  intro C H v d fp hC hF r h
  cases d with
  | dct g ks ds =>
    cases g with
    | m =>
      obtain ⟨a, kvs, f1, f2, rfl, n, _⟩ := r
      exact .inr (.inr (.inl ⟨rfl, .inl ⟨kvs, n.1⟩⟩))
    | _ => cases h
  | _ => cases h
theorem zip_fst' {α β : Type} : ∀ {xs : List α} {ys : List β}, xs.length = ys.length → (xs.zip ys).map (·.1) = xs
  | [], [], _ => rfl
  | x :: xs, y :: ys, h => by simp [zip_fst' (xs := xs) (ys := ys) (by simpa using h)]
theorem zip_snd' {α β : Type} : ∀ {xs : List α} {ys : List β}, xs.length = ys.length → (xs.zip ys).map (·.2) = ys
  | [], [], _ => rfl
  | x :: xs, y :: ys, h => by simp [zip_snd' (xs := xs) (ys := ys) (by simpa using h)]
theorem mu_updD : MuOk X "dict" rUpdD kdM mUpdD := by
  refine ⟨?_, ty_dict⟩
  intro C H v d fp vs ds fpa Q d' res hC hF r ra nd h k
  unfold mUpdD at h
  split at h
  case h_2 => cases h
  rename_i ks ds0 g ks' ds'
  split at h
  case isFalse => cases h
  rename_i hc
  simp only [Bool.and_eq_true, decide_eq_true_eq] at hc
  obtain ⟨⟨⟨⟨hg, hi⟩, hi'⟩, hl⟩, hz⟩ := hc
  cases h
  obtain ⟨a, kvs, f1, f2, rfl, n, ⟨hks, hn⟩, rz, _, rfl⟩ := r
  obtain ⟨hH, rfl⟩ := n
  have z := rz.imm hi
  subst z
  obtain ⟨w, rfl, rx⟩ := reps1 ra
  obtain ⟨o, more, g1, g2, rfl, n2, ⟨hks2, hn2⟩, rz2, _, rfl⟩ := rx
  have z2 := rz2.imm hi'
  subst z2
  have ro : Rd H o (.dK more) := (n2.rd hF).rd fun xs => by intro z; cases z
  have hne : a ≠ o := by
    rintro rfl
    rw [Bool.or_eq_true, decide_eq_true_eq] at hg
    rcases hg with hg | hg
    · have : g = .m := by cases g <;> first | rfl | cases hg
      subst this
      obtain ⟨_, rfl⟩ := n2
      simp at nd
    · rcases ro with q | ⟨ob, q⟩
      · rw [hH] at q; cases q; exact hg (hks.symm.trans hks2)
      · rw [hH] at q; cases q
  have m := Mono.upd (o := .dK (mergeK kvs more)) hH trivial
  have hl2 : (ks'.zip ds').map (·.1) = ks' := zip_fst' hl
  have hl3 : (ks'.zip ds').map (·.2) = ds' := zip_snd' hl
  obtain ⟨q1, q2, q3⟩ := merge_rep (C := C) (H := H) (ps := ks'.zip ds') (kvs := more) (acc := kvs) (kd := (ks, ds0)) (by rw [hks2, hl2]) (by rw [hl3]; exact rz2) hks hn rz
  refine ⟨a, o, kvs, more, rfl, rfl, hH, ro, hne, ?_, ?_⟩
  · have e1 := congrArg List.length hks
    have e2 := congrArg List.length hks2
    simp at e1 e2; omega
  · refine k _ .non [a] [] m (fun b ob hb hnb => ?_) ⟨a, _, [a], [], rfl, ⟨upd_same, rfl⟩, ⟨q1, q2⟩, q3.keep (fun b hb => nomatch hb) m, .inl rfl, rfl⟩ ⟨rfl, rfl⟩ (by simp) (fun b hb => ?_)
    · rw [upd_ne (fun z => hnb (by simp [z]))]; exact hb
    · simp at hb; subst hb; left; simp
variable {W : WX} {Ma Mb : List Nat} {o e : Expr} {es : List Expr} {cl : CL} {cs : CA} {i : Nat} {apos cpos : Pos}
theorem so_updD (ho : SL X W i Ma o cl) (ha : SAO X W Mb (e :: es) cs)
    (hi : djB [i] Mb = true) (hbase : attributeBase o "update" X.env (eval o X.env) = eval o X.env)
    (hfew : ((backTo cpos (starEach (e :: es) X.env)).all (fun x => !x.1) && (backToKw cpos (keywordEach [] X.env)).all (fun x => x.1.isSome)
      && decide ((e :: es).length + ([] : List Keyword).length + (if ([] : List Keyword).isEmpty then 0 else 1) < 30)) = true)
    (hline : (apos.endLine == cpos.line) = true) (hs : starEach (e :: es) X.env = (false, eval e X.env) :: starEach es X.env) (hplain : (backTo cpos (starEach es X.env)).any (·.1) = false) :
    SO X W (Ma ++ (Mb ++ [i])) (.Call (.Attribute o "update" apos) (e :: es) [] cpos) (cMut i kdM mUpdD cl cs) :=
  so_mut mu_updD PySem.F.plainAttrs_dict PySem.F.slot_dict_update PySem.F.type_dict_update mt_updD ho ha hi hbase hfew hline hs hplain
@[simp] theorem e_kdM (ks : List Key) (ds : List D) : kdM (.dct .m ks ds) = true := (rfl)
end
end VS

set_option maxRecDepth 100000
namespace VS
open PySem L2 SeqAt PySem.Spec PyProof.Rows
/-! ### list(range(n)) -/
def rgD (n : Int) : List D := (List.range n.toNat).map fun i => .int (i : Nat)
def cLRg (c : CE) : CE := fun env => (c env).bind fun d env => match d with
  | .int n => if -(2 ^ 62) ≤ n ∧ n < 2 ^ 62 ∧ n.toNat ≤ 2 ^ 24 then .ok (.lst .m (rgD n)) env else .err
  | _ => .err
section
variable {X : Cx} {W : WX} {M Rs : List Nat} {e : Expr} {c : CE} {p pos p2 pos2 : Pos} {C : Ctx} {H : Hp}
theorem reps_rg : ∀ (is : List Nat), Reps C H (is.map fun i => D.int (i : Nat)) (is.map fun i => V.int (0 + (i : Nat))) []
  | [] => ⟨rfl, rfl⟩
  | i :: is => ⟨_, _, [], [], rfl, ⟨by simp, rfl⟩, reps_rg is, rfl⟩
theorem so_lrg (hc : X.calm = true) (hg : Gl X "list") (hm : X.mg "list" = none) (hg2 : Gl X "range") (hm2 : X.mg "range" = none) (h : SB X W M Rs e c) (na : starEach [e] X.env = (false, eval e X.env) :: starEach [] X.env)
    (na2 : starEach [Expr.Call (.Name "range" p) [e] [] pos] X.env = (false, eval (Expr.Call (.Name "range" p) [e] [] pos) X.env) :: starEach [] X.env) :
    SO X W M (.Call (.Name "list" p2) [.Call (.Name "range" p) [e] [] pos] [] pos2) (cLRg c) := by
  obtain ⟨t, pe, q⟩ := h.go
  refine ⟨_, pe_listRg hc hg hm (prg_1 hg2 hm2 pe na) na2, fun C fs env σ H tf Q hC G po => ?_⟩
  show t σ H fun x H1 => ∃ n, x = V.int n ∧ (RgOk 0 n ∧ ∀ q, H1 q = none → Q (.ref q) (upd H1 q (.lst (rgV 0 n))))
  refine q C fs env σ H tf _ hC G ?_
  unfold cLRg at po
  cases e1 : c env with
  | err => rw [e1] at po; exact po
  | ex x env' => rw [e1] at po; exact po
  | ok d env1 =>
    rw [e1] at po
    intro v fs1 H1 fp own G1 s1 r i1
    simp only [R.bind] at po
    cases d with
    | int n =>
      simp only at po
      obtain ⟨rfl, _⟩ := r
      by_cases hz : -(2 ^ 62) ≤ n ∧ n < 2 ^ 62 ∧ n.toNat ≤ 2 ^ 24
      · rw [if_pos hz] at po
        refine ⟨n, rfl, ⟨by omega, by omega, hz.1, hz.2.1, by have := hz.2.2; omega⟩, fun q hq => ?_⟩
        have le : Le H1 (upd H1 q (.lst (rgV 0 n))) := Le.new hq
        have k := comes_post (own := own) G1 s1 po
        have e0 : (n - 0).toNat = n.toNat := by omega
        have rr : Reps C H1 (rgD n) (rgV 0 n) [] := by
          unfold rgD rgV; rw [e0]; exact reps_rg _
        exact k.lst' rr hq
      · rw [if_neg hz] at po; exact po.elim
    | _ => exact po.elim
@[simp] theorem e_lrg {env : Env} : cLRg c env = (c env).bind fun d env => match d with
  | .int n => if -(2 ^ 62) ≤ n ∧ n < 2 ^ 62 ∧ n.toNat ≤ 2 ^ 24 then .ok (.lst .m (rgD n)) env else .err
  | _ => .err := (rfl)
end
end VS

set_option maxRecDepth 100000
namespace VS
open PySem L2 SeqAt PySem.Spec PyProof.Rows
/-! ### reversed(xs), as a source -/
def iRevD (c : CE) : CA := fun env => (c env).bind fun d env => match d with
  | .lst _ ds => if imms ds then .ok ds.reverse env else .err
  | _ => .err
section
variable {X : Cx} {W : WX} {M Rs : List Nat} {e tg : Expr} {ca : CE} {pos p : Pos}
theorem si_rev (hg : Gl X "reversed") (hm : X.mg "reversed" = none) (h : SB X W M Rs e ca) (hs : starEach [e] X.env = [(false, eval e X.env)]) : SI X W M Rs tg (.Call (.Name "reversed" p) [e] [] pos) (iRevD ca) := by
  obtain ⟨t, pe, q⟩ := h.go
  refine ⟨iRev X.K (tCons t tNil), pi_reversed hg hm (pa_cons pe pa_nil hs) hs, fun C fs env σ H tf Q hC G po => ?_⟩
  show t σ H fun x H1 => _
  refine q C fs env σ H tf _ hC G ?_
  unfold iRevD at po
  cases e1 : ca env with
  | err => rw [e1] at po; exact po
  | ex x env' => rw [e1] at po; exact po
  | ok d env1 =>
    rw [e1] at po
    intro v fs1 H1 fp own G1 s1 r1 i1
    cases d with
    | lst g ds =>
      have po' : PostI W C M Rs tf fs env σ H Q (if imms ds then .ok ds.reverse env1 else .err) := po
      by_cases hi : imms ds = true
      · rw [if_pos hi] at po'
        obtain ⟨a, vs, rfl, sq, rs, kp⟩ := src_list hC G1.fr r1 hi
        refine ⟨a, vs, rfl, sq, po' _ fs1 H1 fp own G1 s1 ⟨?_⟩ i1⟩
        have hl := reps_length rs
        rw [List.length_reverse, hl]
        refine Walk.mono (walk_rev (K := X.K) (a := a) (xs := vs)) (fun H2 h2 => (kp H2 h2).1) fun i H2 x H3 hi2 h2 ⟨e1, e2⟩ => ?_
        subst e1
        obtain ⟨d, h1, h3⟩ := reps_imm_get (kp H3 h2).2 hi e2
        refine ⟨.refl _, d, ?_, h3⟩
        rw [List.getElem?_reverse (by omega), hl]; exact h1
      · rw [if_neg hi] at po'; exact po'.elim
    | _ => exact po.elim
@[simp] theorem e_revD {env : Env} : iRevD ca env = (ca env).bind fun d env => match d with
  | .lst _ ds => if imms ds then .ok ds.reverse env else .err
  | _ => .err := (rfl)
end
end VS

set_option maxRecDepth 100000
namespace VS
open PySem L2 SeqAt PySem.Spec PyProof.Rows
section
variable {X : Cx} {W : WX} {M Vs : List Nat} {c : CS} {C : Ctx} {fs : FPs} {env : Env} {σ : L2.St} {H : Hp} {tf : List Addr} {i : Nat} {d : D}
theorem sss_lend (i : Nat) (js : List Nat) {sts : List Stmt} (h : SSs X W M Vs sts c) (hM : i ∉ M ∧ i ∉ Vs := by decide) (hj : ∀ j ∈ M ++ Vs, j ∈ js := by decide) : SSs X W M Vs sts (sLend i js c) := by
  obtain ⟨t, p, q⟩ := h.go
  have hj' : ∀ j, j ∈ M ∨ j ∈ Vs → j ∈ js := fun j z => hj j (List.mem_append.mpr z)
  refine ⟨t, p, fun C fs env σ H tf E hC G po => ?_⟩
  unfold sLend at po
  cases e1 : env[i]? with
  | none => rw [e1] at po; exact po.elim
  | some od =>
    cases od with
    | none => rw [e1] at po; exact po.elim
    | some d =>
      rw [e1] at po
      simp only at po
      obtain ⟨En, hd, G1⟩ := lend_in G e1
      refine q (ctxL C fs i tf H) (fs.set i []) (env.set i (some d.lend)) σ H tf E hC G1 ?_
      cases e2 : c (env.set i (some d.lend)) with
      | err => rw [e2] at po; exact po.elim
      | nx env' =>
        rw [e2] at po
        intro fs' σ' H' G' s
        cases ok : okN js env' with
        | false => simp only [lendEnd, ok] at po; exact po.elim
        | true =>
          simp only [lendEnd, ok, if_true] at po
          obtain ⟨a, b⟩ := lend_out (fp := []) G e1 hM.1 hM.2 hj' (by simpa using G') s ok
          exact po _ _ _ (by simpa using a) b
      | rt r env' =>
        rw [e2] at po
        intro v fs' σ' H' fp G' s rr
        cases ok : (r.nol && okN js env') with
        | false => simp only [lendEnd, ok] at po; exact po.elim
        | true =>
          simp only [lendEnd, ok, if_true] at po
          obtain ⟨o1, o2⟩ := Bool.and_eq_true_iff.mp ok
          obtain ⟨a, b⟩ := lend_out G e1 hM.1 hM.2 hj' G' s o2
          exact po _ _ _ _ _ a b (Rep.leave (C := C) (C' := ctxL C fs i tf H) rfl rfl rfl rr o1)
      | bk env' =>
        rw [e2] at po
        intro fs' σ' H' G' s
        cases ok : okN js env' with
        | false => simp only [lendEnd, ok] at po; exact po.elim
        | true =>
          simp only [lendEnd, ok, if_true] at po
          obtain ⟨a, b⟩ := lend_out (fp := []) G e1 hM.1 hM.2 hj' (by simpa using G') s ok
          exact po _ _ _ (by simpa using a) b
      | ct env' =>
        rw [e2] at po
        intro fs' σ' H' G' s
        cases ok : okN js env' with
        | false => simp only [lendEnd, ok] at po; exact po.elim
        | true =>
          simp only [lendEnd, ok, if_true] at po
          obtain ⟨a, b⟩ := lend_out (fp := []) G e1 hM.1 hM.2 hj' (by simpa using G') s ok
          exact po _ _ _ (by simpa using a) b
      | ex x env' =>
        rw [e2] at po
        intro cv dd fs' σ' H' G' s xx
        cases ok : okN js env' with
        | false => simp only [lendEnd, ok] at po; exact po.elim
        | true =>
          simp only [lendEnd, ok, if_true] at po
          obtain ⟨a, b⟩ := lend_out (fp := []) G e1 hM.1 hM.2 hj' (by simpa using G') s ok
          exact po _ _ _ _ _ (by simpa using a) b (ExIs.leave (C := C) (C' := ctxL C fs i tf H) rfl rfl rfl xx)
end
end VS

set_option maxRecDepth 100000
namespace VS
open PySem L2 SeqAt PySem.Spec PyProof.Rows
/-! ### a statement that walks over a dict: it is locked meanwhile -/
mutual
def D.nok : D → Bool
  | .tup ds => noks ds
  | .lst g ds => (g != .k) && noks ds
  | .dct g _ ds => (g != .k) && noks ds
  | .obj g _ _ ds => (g != .k) && noks ds
  | _ => true
def noks : List D → Bool
  | [] => true
  | d :: ds => d.nok && noks ds
end
def okK (js : List Nat) (env : Env) : Bool := js.all fun j => match env[j]? with
  | some (some d) => d.nok
  | _ => true
def lockFs (f : Str) : List Str → List D → Option (List D)
  | n :: ns, d :: ds => if n = f then (match d with
      | .dct .l ks es => some (.dct .k ks es :: ds)
      | _ => none) else (lockFs f ns ds).map (d :: ·)
  | _, _ => none
def lockD : Option (Str × Str) → D → Option D
  | none, .dct .l ks ds => some (.dct .k ks ds)
  | some (c, f), .obj .l c' ns ds => if c = c' then (lockFs f ns ds).map (.obj .l c' ns ·) else none
  | _, _ => none
def lockEnd (i : Nat) (d : D) (js : List Nat) : O → O
  | .nx env => if okK js env then .nx (env.set i (some d)) else .err
  | .rt r env => if r.nok && okK js env then .rt r (env.set i (some d)) else .err
  | .bk env => if okK js env then .bk (env.set i (some d)) else .err
  | .ct env => if okK js env then .ct (env.set i (some d)) else .err
  | _ => .err
def sLock (i : Nat) (p : Option (Str × Str)) (js : List Nat) (c : CS) : CS := fun env => match env[i]? with
  | some (some d) => match lockD p d with
    | some d' => lockEnd i d js (c (env.set i (some d')))
    | none => .err
  | _ => .err
def ctxK (C : Ctx) (a : Addr) : Ctx := ⟨C.K, C.mg, C.H0, C.A, a :: C.Lk⟩
section
variable {C C' : Ctx} {H H' : Hp}
theorem reps_tr (tr : ∀ d v, Rep C H d v [] → Rep C' H' d v []) : ∀ {ds vs}, Reps C H ds vs [] → Reps C' H' ds vs []
  | [], vs, h => h
  | d :: ds, vs, ⟨v, vs', f1, f2, e, r, rs, e2⟩ => by
    have h1 : f1 = [] := (List.append_eq_nil_iff.mp e2.symm).1
    have h2 : f2 = [] := (List.append_eq_nil_iff.mp e2.symm).2
    subst h1 h2
    exact ⟨v, vs', [], [], e, tr _ _ r, reps_tr tr rs, rfl⟩
theorem lockFs_ex {f : Str} : ∀ {ns : List Str} {ds ds' : List D} {vs : List V}, lockFs f ns ds = some ds' → Reps C H ds vs [] → ∃ a kvs, (Rd C.H0 a (.dK kvs) ∧ a ∉ C.A) ∧
    ∀ C' H', (∀ d v, Rep C H d v [] → Rep C' H' d v []) → Nd C' H' .k a (.dK kvs) [] → Reps C' H' ds' vs []
  | [], ds, ds', vs, h, _ => by simp [lockFs] at h
  | n :: ns, [], ds', vs, h, _ => by simp [lockFs] at h
  | n :: ns, d :: ds, ds', vs, h, ⟨v, vs', f1, f2, e, r, rs, e2⟩ => by
    have h1 : f1 = [] := (List.append_eq_nil_iff.mp e2.symm).1
    have h2 : f2 = [] := (List.append_eq_nil_iff.mp e2.symm).2
    subst h1 h2
    unfold lockFs at h
    split at h
    · split at h
      · rename_i ks es
        cases h
        obtain ⟨a, kvs, g1, g2, ev, nd, q, r2, z, e3⟩ := r
        have h1 : g1 = [] := (List.append_eq_nil_iff.mp e3.symm).1
        have h2 : g2 = [] := (List.append_eq_nil_iff.mp e3.symm).2
        subst h1 h2
        obtain ⟨⟨h0, na⟩ | ⟨xs, q1, _⟩, _⟩ := nd
        · exact ⟨a, kvs, ⟨h0, na⟩, fun C' H' tr nk => ⟨v, vs', [], [], e, ⟨a, kvs, [], [], ev, nk, q, reps_tr tr r2, .inr rfl, rfl⟩, reps_tr tr rs, rfl⟩⟩
        · cases q1
      · cases h
    · cases hl : lockFs f ns ds with
      | none => rw [hl] at h; cases h
      | some ds2 =>
        rw [hl] at h
        cases h
        obtain ⟨a, kvs, p, k⟩ := lockFs_ex hl rs
        exact ⟨a, kvs, p, fun C' H' tr nk => ⟨v, vs', [], [], e, tr _ _ r, k C' H' tr nk, rfl⟩⟩
theorem lock_at {p : Option (Str × Str)} {d d' : D} {v : V} {fp : List Addr} (h : lockD p d = some d') (r : Rep C H d v fp) : fp = [] ∧ ∃ a kvs, (Rd C.H0 a (.dK kvs) ∧ a ∉ C.A) ∧
    ∀ C' H', C'.mg = C.mg → (∀ d v, Rep C H d v [] → Rep C' H' d v []) → (∀ b u, Nd C H .l b u [] → Nd C' H' .l b u []) → Nd C' H' .k a (.dK kvs) [] → Rep C' H' d' v [] := by
  unfold lockD at h
  split at h
  · rename_i ks ds
    cases h
    obtain ⟨a, kvs, g1, g2, ev, nd, q, r2, z, e3⟩ := r
    have h1 : g1 = [] := nd.2
    have h2 : g2 = [] := z.elim (fun q => nomatch q) id
    subst h1 h2
    obtain ⟨⟨h0, na⟩ | ⟨xs, q1, _⟩, _⟩ := nd
    · exact ⟨e3, a, kvs, ⟨h0, na⟩, fun C' H' _ tr _ nk => ⟨a, kvs, [], [], ev, nk, q, reps_tr tr r2, .inr rfl, rfl⟩⟩
    · cases q1
  · rename_i c f c' ns ds
    split at h
    · rename_i hc
      cases hl : lockFs f ns ds with
      | none => rw [hl] at h; cases h
      | some ds2 =>
        rw [hl] at h
        cases h
        obtain ⟨b, Ca, dx, fls, g1, g2, ev, cl, nd, hn, r2, z, e3⟩ := r
        have h1 : g1 = [] := nd.2
        have h2 : g2 = [] := z.elim (fun q => nomatch q) id
        subst h1 h2
        obtain ⟨a, kvs, pr, k⟩ := lockFs_ex hl r2
        exact ⟨e3, a, kvs, pr, fun C' H' hm tr tn nk => ⟨b, Ca, dx, fls, [], [], ev, clsOf_eq hm cl, tn _ _ nd, hn, k C' H' tr nk, .inr rfl, rfl⟩⟩
    · cases h
  · cases h
end
section
variable {C : Ctx} {H H2 : Hp} {a : Addr} {od : Obj} {kvs : List (Key × V)}
theorem nd_lock (h : H a = some (.dK kvs)) {g b u fp} (n : Nd C H g b u fp) (hfp : a ∉ fp) : Nd (ctxK C a) (L2.upd H a (.frz od (.dK kvs))) g b u fp := by
  cases g with
  | m =>
    obtain ⟨e, rfl⟩ := n
    have hb : b ≠ a := fun z => hfp (by simp [z])
    exact ⟨by rw [upd_ne hb]; exact e, rfl⟩
  | l => exact n
  | f =>
    obtain ⟨⟨o, e⟩, x, q⟩ := n
    have hb : b ≠ a := by rintro rfl; rw [h] at e; cases e
    exact ⟨⟨o, by rw [upd_ne hb]; exact e⟩, by simp [ctxK, hb, x], q⟩
  | k =>
    obtain ⟨⟨o, e⟩, q⟩ := n
    have hb : b ≠ a := by rintro rfl; rw [h] at e; cases e
    exact ⟨⟨o, by rw [upd_ne hb]; exact e⟩, q⟩
mutual
theorem Rep.lockIn (h : H a = some (.dK kvs)) : ∀ {d : D} {v : V} {fp : List Addr}, Rep C H d v fp → a ∉ fp → Rep (ctxK C a) (L2.upd H a (.frz od (.dK kvs))) d v fp
  | .non, v, fp, r, _ => r
  | .bl b, v, fp, r, _ => r
  | .int i, v, fp, r, _ => r
  | .str s, v, fp, r, _ => r
  | .ty s, v, fp, r, _ => r
  | .tup ds, v, fp, ⟨b, vs, e, t, r⟩, hn => ⟨b, vs, e, sqt_keep t (Mono.upd h trivial), Reps.lockIn h r hn⟩
  | .lst g ds, v, fp, ⟨b, vs, f1, f2, e, n, r, z, e2⟩, hn => ⟨b, vs, f1, f2, e, nd_lock h n (fun q => hn (by rw [e2]; exact List.mem_append_left _ q)), Reps.lockIn h r (fun q => hn (by rw [e2]; exact List.mem_append_right _ q)), z, e2⟩
  | .dct g ks ds, v, fp, ⟨b, vs, f1, f2, e, n, q, r, z, e2⟩, hn => ⟨b, vs, f1, f2, e, nd_lock h n (fun q => hn (by rw [e2]; exact List.mem_append_left _ q)), q, Reps.lockIn h r (fun q => hn (by rw [e2]; exact List.mem_append_right _ q)), z, e2⟩
  | .obj g c ns ds, v, fp, ⟨b, Ca, dx, fls, f1, f2, e, c1, n, q, r, z, e2⟩, hn => ⟨b, Ca, dx, fls, f1, f2, e, c1, nd_lock h n (fun q => hn (by rw [e2]; exact List.mem_append_left _ q)), q, Reps.lockIn h r (fun q => hn (by rw [e2]; exact List.mem_append_right _ q)), z, e2⟩
theorem Reps.lockIn (h : H a = some (.dK kvs)) : ∀ {ds : List D} {vs : List V} {fp : List Addr}, Reps C H ds vs fp → a ∉ fp → Reps (ctxK C a) (L2.upd H a (.frz od (.dK kvs))) ds vs fp
  | [], vs, fp, r, _ => r
  | d :: ds, vs, fp, ⟨v, vs', f1, f2, e, r, rs, e2⟩, hn => ⟨v, vs', f1, f2, e, Rep.lockIn h r (fun q => hn (by rw [e2]; exact List.mem_append_left _ q)), Reps.lockIn h rs (fun q => hn (by rw [e2]; exact List.mem_append_right _ q)), e2⟩
end
theorem sqt_unlock {K b xs} (h : H2 a = some (.frz od (.dK kvs))) (t : SqT K H2 b xs) : SqT K (L2.upd H2 a (.dK kvs)) b xs := by
  rcases t with (q | ⟨o, q⟩) | q
  · exact .inl (.inl (by rw [upd_ne (by rintro rfl; rw [h] at q; cases q)]; exact q))
  · exact .inl (.inr ⟨o, by rw [upd_ne (by rintro rfl; rw [h] at q; cases q)]; exact q⟩)
  · exact .inr q
theorem nd_unlock (h : H2 a = some (.frz od (.dK kvs))) {g b u fp} (n : Nd (ctxK C a) H2 g b u fp) (mu : Mutb u) (hg : (g != .k) = true) : Nd C (L2.upd H2 a (.dK kvs)) g b u fp := by
  cases g with
  | m =>
    obtain ⟨e, rfl⟩ := n
    have hb : b ≠ a := by rintro rfl; rw [h] at e; cases e; exact mu
    exact ⟨by rw [upd_ne hb]; exact e, rfl⟩
  | l => exact n
  | f =>
    obtain ⟨⟨o, e⟩, x, q⟩ := n
    simp only [ctxK, List.mem_cons, not_or] at x
    exact ⟨⟨o, by rw [upd_ne x.1]; exact e⟩, x.2, q⟩
  | k => cases hg
mutual
theorem Rep.unlock (h : H2 a = some (.frz od (.dK kvs))) : ∀ {d : D} {v : V} {fp : List Addr}, Rep (ctxK C a) H2 d v fp → d.nok = true → Rep C (L2.upd H2 a (.dK kvs)) d v fp
  | .non, v, fp, r, _ => r
  | .bl b, v, fp, r, _ => r
  | .int i, v, fp, r, _ => r
  | .str s, v, fp, r, _ => r
  | .ty s, v, fp, r, _ => r
  | .tup ds, v, fp, ⟨b, vs, e, t, r⟩, hn => ⟨b, vs, e, sqt_unlock h t, Reps.unlock h r hn⟩
  | .lst g ds, v, fp, ⟨b, vs, f1, f2, e, n, r, z, e2⟩, hn => ⟨b, vs, f1, f2, e, nd_unlock h n trivial (Bool.and_eq_true_iff.mp hn).1, Reps.unlock h r (Bool.and_eq_true_iff.mp hn).2, z, e2⟩
  | .dct g ks ds, v, fp, ⟨b, vs, f1, f2, e, n, q, r, z, e2⟩, hn => ⟨b, vs, f1, f2, e, nd_unlock h n trivial (Bool.and_eq_true_iff.mp hn).1, q, Reps.unlock h r (Bool.and_eq_true_iff.mp hn).2, z, e2⟩
  | .obj g c ns ds, v, fp, ⟨b, Ca, dx, fls, f1, f2, e, c1, n, q, r, z, e2⟩, hn => ⟨b, Ca, dx, fls, f1, f2, e, c1, nd_unlock h n trivial (Bool.and_eq_true_iff.mp hn).1, q, Reps.unlock h r (Bool.and_eq_true_iff.mp hn).2, z, e2⟩
theorem Reps.unlock (h : H2 a = some (.frz od (.dK kvs))) : ∀ {ds : List D} {vs : List V} {fp : List Addr}, Reps (ctxK C a) H2 ds vs fp → noks ds = true → Reps C (L2.upd H2 a (.dK kvs)) ds vs fp
  | [], vs, fp, r, _ => r
  | d :: ds, vs, fp, ⟨v, vs', f1, f2, e, r, rs, e2⟩, hn => ⟨v, vs', f1, f2, e, Rep.unlock h r (Bool.and_eq_true_iff.mp hn).1, Reps.unlock h rs (Bool.and_eq_true_iff.mp hn).2, e2⟩
end
end
section
variable {X : Cx} {W : WX} {M Vs : List Nat} {st : Stmt} {c : CS} {C : Ctx} {fs : FPs} {env : Env} {σ : L2.St} {H : Hp} {tf : List Addr} {i : Nat} {d d' : D} {a : Addr} {od : Obj} {kvs : List (Key × V)}
theorem lock_in {v : V} (G : Good C fs env σ H tf) (e : env[i]? = some (some d)) (ev : σ[i]? = some (some v)) (fe : fs.getD i [] = []) (hH : H a = some (.dK kvs)) (h0 : Rd C.H0 a (.dK kvs) ∧ a ∉ C.A)
    (hd : Rep (ctxK C a) (L2.upd H a (.frz od (.dK kvs))) d' v []) : Good (ctxK C a) fs (env.set i (some d')) σ (L2.upd H a (.frz od (.dK kvs))) tf := by
  have na : a ∉ fs.flatten ++ tf := fun z => by
    rcases G.own a z with q | q
    · exact h0.2 q
    · rcases h0.1 with r | ⟨_, r⟩ <;> rw [q] at r <;> cases r
  have nf : ∀ j, a ∉ fs.getD j [] := fun j z => na (List.mem_append_left _ (mem_flat z))
  refine ⟨by simpa using G.le, G.lf, fun j dj ej => ?_, G.nd, G.own, fun b hb => ?_, fun b o eb nb => ?_, fun b hb => ?_⟩
  · rw [List.getElem?_set] at ej
    by_cases hj : i = j
    · subst hj
      have hlt : i < env.length := (List.getElem?_eq_some_iff.mp e).1
      simp [hlt] at ej
      subst ej
      rw [fe]
      exact ⟨v, ev, hd⟩
    · rw [if_neg hj] at ej
      obtain ⟨v, ev, r⟩ := G.rep j dj ej
      exact ⟨v, ev, r.lockIn hH (nf j)⟩
  · obtain ⟨o, eb, mu⟩ := G.trk b hb
    have hba : b ≠ a := by rintro rfl; exact na hb
    exact ⟨o, by rw [upd_ne hba]; exact eb, mu⟩
  · by_cases hba : b = a
    · subst hba
      rcases G.fr b o eb nb with q | ⟨q1, q2, ob, q⟩
      · rw [hH] at q; cases q
        exact .inr ⟨by simp [ctxK], trivial, od, upd_same⟩
      · rw [hH] at q; cases q
    · rcases G.fr b o eb nb with q | ⟨q1, q2, ob, q⟩
      · exact .inl (by rw [upd_ne hba]; exact q)
      · exact .inr ⟨by simp [ctxK, q1], q2, ob, by rw [upd_ne hba]; exact q⟩
  · by_cases hba : b = a
    · subst hba; exact ⟨od, _, upd_same⟩
    · have hb' : b ∈ C.Lk := by simpa [ctxK, hba] using hb
      obtain ⟨ob, u, q⟩ := G.lk b hb'
      exact ⟨ob, u, by rw [upd_ne hba]; exact q⟩
theorem lock_out {fs' : FPs} {env' : Env} {σ' : L2.St} {H' : Hp} {fp : List Addr} {js : List Nat} (G : Good C fs env σ H tf) (e : env[i]? = some (some d)) (hH : H a = some (.dK kvs)) (h0 : Rd C.H0 a (.dK kvs) ∧ a ∉ C.A)
    (hM : i ∉ M) (hV : i ∉ Vs) (hj : ∀ j, j ∈ M ∨ j ∈ Vs → j ∈ js)
    (G' : Good (ctxK C a) fs' env' σ' H' (fp ++ tf)) (s : StepS M Vs tf fs (env.set i (some d')) σ (L2.upd H a (.frz od (.dK kvs))) fs' env' σ' H') (ok : okK js env' = true) :
    H' a = some (.frz od (.dK kvs)) ∧ Good C fs' (env'.set i (some d)) σ' (L2.upd H' a (.dK kvs)) (fp ++ tf) ∧ StepS M Vs tf fs env σ H fs' (env'.set i (some d)) σ' (L2.upd H' a (.dK kvs)) := by
  have hz : H' a = some (.frz od (.dK kvs)) := s.s.m.z _ _ _ upd_same
  have hie : i < env.length := (List.getElem?_eq_some_iff.mp e).1
  have na0 : ∀ b, b ∈ C.A ∨ C.H0 b = none → b ≠ a := fun b q => by
    rintro rfl
    rcases q with q | q
    · exact h0.2 q
    · rcases h0.1 with r | ⟨_, r⟩ <;> rw [q] at r <;> cases r
  have na : ∀ b ∈ fs'.flatten ++ (fp ++ tf), b ≠ a := fun b hb => na0 b (G'.own b hb)
  have nf : ∀ j b, b ∈ fs.getD j [] → b ≠ a := fun j b hb => na0 b (G.own b (List.mem_append_left _ (mem_flat hb)))
  have mono : Mono H (L2.upd H' a (.dK kvs)) := by
    constructor
    · intro b xs eb
      have hba : b ≠ a := by rintro rfl; rw [hH] at eb; cases eb
      rw [upd_ne hba]; exact s.s.m.t b xs (by rw [upd_ne hba]; exact eb)
    · intro b o u eb
      have hba : b ≠ a := by rintro rfl; rw [hH] at eb; cases eb
      rw [upd_ne hba]; exact s.s.m.z b o u (by rw [upd_ne hba]; exact eb)
  have keepf : ∀ j, j ∉ M → ∀ b ∈ fs.getD j [], L2.upd H' a (.dK kvs) b = H b := fun j hj b hb => by
    rw [upd_ne (nf j b hb), s.s.h j hj b hb, upd_ne (nf j b hb)]
  refine ⟨hz, ⟨by have := G'.le; simpa using this, G'.lf, fun j dj ej => ?_, G'.nd, G'.own, fun b hb => ?_, fun b o eb nb => ?_, fun b hb => ?_⟩, ⟨⟨fun b hb => ?_, s.s.f, fun j hj' => ?_, keepf, mono⟩, s.v⟩⟩
  · rw [List.getElem?_set] at ej
    by_cases hij : i = j
    · subst hij
      have hlt : i < env'.length := by
        have h1 := G'.le
        have h2 := G.le
        obtain ⟨v, ev, _⟩ := G.rep i d e
        have := s.v i hV
        rw [ev] at this
        have := (List.getElem?_eq_some_iff.mp this).1
        omega
      simp [hlt] at ej
      subst ej
      obtain ⟨v, ev, r⟩ := G.rep i d e
      refine ⟨v, by rw [s.v i hV]; exact ev, ?_⟩
      rw [s.s.f i hM]
      exact r.keep (keepf i hM) mono
    · rw [if_neg hij] at ej
      by_cases hjs : j ∈ js
      · obtain ⟨w, ew, rw'⟩ := G'.rep j dj ej
        have hn := List.all_eq_true.mp ok j hjs
        rw [ej] at hn
        exact ⟨w, ew, rw'.unlock hz hn⟩
      · have hjM : j ∉ M := fun z => hjs (hj j (.inl z))
        have hjV : j ∉ Vs := fun z => hjs (hj j (.inr z))
        have e1 := s.s.e j hjM
        rw [ej, List.getElem?_set, if_neg hij] at e1
        obtain ⟨w, ew, rw'⟩ := G.rep j dj e1.symm
        refine ⟨w, by rw [s.v j hjV]; exact ew, ?_⟩
        rw [s.s.f j hjM]
        exact rw'.keep (keepf j hjM) mono
  · obtain ⟨o, eb, mu⟩ := G'.trk b hb
    exact ⟨o, by rw [upd_ne (na b hb)]; exact eb, mu⟩
  · by_cases hba : b = a
    · subst hba
      rcases G.fr b o eb nb with q | ⟨q1, q2, ob, q⟩
      · rw [hH] at q; cases q
        exact .inl upd_same
      · rw [hH] at q; cases q
    · rcases G'.fr b o eb nb with q | ⟨q1, q2, ob, q⟩
      · exact .inl (by rw [upd_ne hba]; exact q)
      · exact .inr ⟨by simpa [ctxK, hba] using q1, q2, ob, by rw [upd_ne hba]; exact q⟩
  · obtain ⟨ob, u, q⟩ := G.lk b hb
    have hba : b ≠ a := by rintro rfl; rw [hH] at q; cases q
    obtain ⟨ob2, u2, q2⟩ := G'.lk b (by simp [ctxK, hb])
    exact ⟨ob2, u2, by rw [upd_ne hba]; exact q2⟩
  · have hba : b ≠ a := na b (by simp [hb])
    rw [upd_ne hba, s.s.t b hb, upd_ne hba]
  · rw [List.getElem?_set]
    by_cases hij : i = j
    · subst hij
      have hlt : i < env'.length := by
        have h1 := G'.le
        obtain ⟨v, ev, _⟩ := G.rep i d e
        have := s.v i hV
        rw [ev] at this
        have := (List.getElem?_eq_some_iff.mp this).1
        omega
      simp [hlt, e]
    · rw [if_neg hij]
      have := s.s.e j hj'
      rw [List.getElem?_set, if_neg hij] at this; exact this
theorem Good.relab {v : V} (G : Good C fs env σ H tf) (e : env[i]? = some (some d)) (ev : σ[i]? = some (some v)) (hd : Rep C H d' v (fs.getD i [])) : Good C fs (env.set i (some d')) σ H tf := by
  refine ⟨by simpa using G.le, G.lf, fun j dj ej => ?_, G.nd, G.own, G.trk, G.fr, G.lk⟩
  rw [List.getElem?_set] at ej
  by_cases hj : i = j
  · subst hj
    have hlt : i < env.length := (List.getElem?_eq_some_iff.mp e).1
    simp [hlt] at ej
    subst ej
    exact ⟨v, ev, hd⟩
  · rw [if_neg hj] at ej
    exact G.rep j dj ej
theorem relab_out {fs' : FPs} {env' : Env} {σ' : L2.St} {H' : Hp} {fp : List Addr} (G : Good C fs env σ H tf) (e : env[i]? = some (some d)) (hM : i ∉ M) (hV : i ∉ Vs)
    (G' : Good C fs' env' σ' H' (fp ++ tf)) (s : StepS M Vs tf fs (env.set i (some d')) σ H fs' env' σ' H') :
    Good C fs' (env'.set i (some d)) σ' H' (fp ++ tf) ∧ StepS M Vs tf fs env σ H fs' (env'.set i (some d)) σ' H' := by
  have hie : i < env.length := (List.getElem?_eq_some_iff.mp e).1
  obtain ⟨v, ev, r⟩ := G.rep i d e
  have hv := s.v i hV
  rw [ev] at hv
  have hlt : i < env'.length := by
    have h1 := G'.le
    have := (List.getElem?_eq_some_iff.mp hv).1
    omega
  refine ⟨⟨by have := G'.le; simpa using this, G'.lf, fun j dj ej => ?_, G'.nd, G'.own, G'.trk, G'.fr, G'.lk⟩, ⟨⟨s.s.t, s.s.f, fun j hj' => ?_, s.s.h, s.s.m⟩, s.v⟩⟩
  · rw [List.getElem?_set] at ej
    by_cases hij : i = j
    · subst hij
      simp [hlt] at ej
      subst ej
      refine ⟨v, hv, ?_⟩
      rw [s.s.f i hM]
      exact r.keep (s.s.h i hM) s.s.m
    · rw [if_neg hij] at ej
      exact G'.rep j dj ej
  · rw [List.getElem?_set]
    by_cases hij : i = j
    · subst hij; simp [hlt, e]
    · rw [if_neg hij]
      have := s.s.e j hj'
      rw [List.getElem?_set, if_neg hij] at this; exact this
theorem ps_or {t1 t2 : TS} (h1 : PS X st t1) (h2 : PS X st t2) : PS X st (fun E σ H => t1 E σ H ∨ t2 E σ H) :=
  ⟨fun pins s σ H E I hw => hw.elim (h1.run pins s σ H E I) (h2.run pins s σ H E I)⟩
theorem ss_lock (i : Nat) (p : Option (Str × Str)) (js : List Nat) (h : SS X W M Vs st c) (hM : i ∉ M ∧ i ∉ Vs := by decide) (hj : ∀ j ∈ M ++ Vs, j ∈ js := by decide) : SS X W M Vs st (sLock i p js c) := by
  obtain ⟨t, pe, q⟩ := h.go
  have hj' : ∀ j, j ∈ M ∨ j ∈ Vs → j ∈ js := fun j z => hj j (List.mem_append.mpr z)
  refine ⟨_, ps_or pe (ps_lock pe), fun C fs env σ H tf E hC G po => ?_⟩
  unfold sLock at po
  cases e1 : env[i]? with
  | none => rw [e1] at po; exact po.elim
  | some od =>
  cases od with
  | none => rw [e1] at po; exact po.elim
  | some d =>
  rw [e1] at po
  simp only at po
  cases hl : lockD p d with
  | none => rw [hl] at po; exact po.elim
  | some d' =>
  rw [hl] at po
  simp only at po
  obtain ⟨v, ev, r⟩ := G.rep i d e1
  obtain ⟨fe, a, kvs, h0, tr⟩ := lock_at hl r
  -- the dict may be frozen already
  have frz : (∃ o, H a = some (.frz o (.dK kvs))) ∨ H a = some (.dK kvs) := by
    rcases h0.1 with z | ⟨o, z⟩
    · rcases G.fr a _ z h0.2 with q | ⟨_, _, ob, q⟩
      · exact .inr q
      · exact .inl ⟨ob, q⟩
    · rcases G.fr a _ z h0.2 with q | ⟨_, mu, ob, q⟩
      · exact .inl ⟨o, q⟩
      · exact mu.elim
  rw [fe] at r
  rcases frz with hf | hH
  · refine .inl (q C fs (env.set i (some d')) σ H tf E hC (G.relab e1 ev (by rw [fe]; exact tr C H rfl (fun _ _ z => z) (fun _ _ z => z) ⟨hf, rfl⟩)) ?_)
    cases e2 : c (env.set i (some d')) with
    | err => rw [e2] at po; exact po.elim
    | ex x env' => rw [e2] at po; exact po.elim
    | nx env' =>
      rw [e2] at po
      intro fs' σ' H' G' s
      cases ok : okK js env' with
      | false => simp only [lockEnd, ok] at po; exact po.elim
      | true =>
        simp only [lockEnd, ok, if_true] at po
        obtain ⟨a1, b1⟩ := relab_out (fp := []) G e1 hM.1 hM.2 (by simpa using G') s
        exact po _ _ _ (by simpa using a1) b1
    | bk env' =>
      rw [e2] at po
      intro fs' σ' H' G' s
      cases ok : okK js env' with
      | false => simp only [lockEnd, ok] at po; exact po.elim
      | true =>
        simp only [lockEnd, ok, if_true] at po
        obtain ⟨a1, b1⟩ := relab_out (fp := []) G e1 hM.1 hM.2 (by simpa using G') s
        exact po _ _ _ (by simpa using a1) b1
    | ct env' =>
      rw [e2] at po
      intro fs' σ' H' G' s
      cases ok : okK js env' with
      | false => simp only [lockEnd, ok] at po; exact po.elim
      | true =>
        simp only [lockEnd, ok, if_true] at po
        obtain ⟨a1, b1⟩ := relab_out (fp := []) G e1 hM.1 hM.2 (by simpa using G') s
        exact po _ _ _ (by simpa using a1) b1
    | rt r1 env' =>
      rw [e2] at po
      intro w fs' σ' H' fp G' s rr
      cases ok : (r1.nok && okK js env') with
      | false => simp only [lockEnd, ok] at po; exact po.elim
      | true =>
        simp only [lockEnd, ok, if_true] at po
        obtain ⟨a1, b1⟩ := relab_out G e1 hM.1 hM.2 G' s
        exact po _ _ _ _ _ a1 b1 rr
  · refine .inr ⟨a, .dK kvs, hH, trivial, fun od => ?_⟩
    have G1 := lock_in (od := od) (d' := d') G e1 ev fe hH h0 (tr (ctxK C a) _ rfl (fun _ _ z => z.lockIn hH (fun q => nomatch q)) (fun _ _ z => nd_lock hH z (fun q => nomatch q)) ⟨⟨od, upd_same⟩, rfl⟩)
    refine q (ctxK C a) fs (env.set i (some d')) σ _ tf _ hC G1 ?_
    cases e2 : c (env.set i (some d')) with
    | err => rw [e2] at po; exact po.elim
    | ex x env' => rw [e2] at po; exact po.elim
    | nx env' =>
      rw [e2] at po
      intro fs' σ' H' G' s
      cases ok : okK js env' with
      | false => simp only [lockEnd, ok] at po; exact po.elim
      | true =>
        simp only [lockEnd, ok, if_true] at po
        obtain ⟨z1, a1, b1⟩ := lock_out (fp := []) G e1 hH h0 hM.1 hM.2 hj' (by simpa using G') s ok
        exact ⟨z1, po _ _ _ (by simpa using a1) b1⟩
    | bk env' =>
      rw [e2] at po
      intro fs' σ' H' G' s
      cases ok : okK js env' with
      | false => simp only [lockEnd, ok] at po; exact po.elim
      | true =>
        simp only [lockEnd, ok, if_true] at po
        obtain ⟨z1, a1, b1⟩ := lock_out (fp := []) G e1 hH h0 hM.1 hM.2 hj' (by simpa using G') s ok
        exact ⟨z1, po _ _ _ (by simpa using a1) b1⟩
    | ct env' =>
      rw [e2] at po
      intro fs' σ' H' G' s
      cases ok : okK js env' with
      | false => simp only [lockEnd, ok] at po; exact po.elim
      | true =>
        simp only [lockEnd, ok, if_true] at po
        obtain ⟨z1, a1, b1⟩ := lock_out (fp := []) G e1 hH h0 hM.1 hM.2 hj' (by simpa using G') s ok
        exact ⟨z1, po _ _ _ (by simpa using a1) b1⟩
    | rt r1 env' =>
      rw [e2] at po
      intro w fs' σ' H' fp G' s rr
      cases ok : (r1.nok && okK js env') with
      | false => simp only [lockEnd, ok] at po; exact po.elim
      | true =>
        simp only [lockEnd, ok, if_true] at po
        obtain ⟨o1, o2⟩ := Bool.and_eq_true_iff.mp ok
        obtain ⟨z1, a1, b1⟩ := lock_out G e1 hH h0 hM.1 hM.2 hj' G' s o2
        exact ⟨z1, po _ _ _ _ _ a1 b1 (rr.unlock z1 o1)⟩
end
@[simp] theorem e_lockS (i : Nat) (p : Option (Str × Str)) (js : List Nat) (c : CS) (env : Env) : sLock i p js c env = match env[i]? with
  | some (some d) => match lockD p d with
    | some d' => lockEnd i d js (c (env.set i (some d')))
    | none => .err
  | _ => .err := (rfl)
/-! ### the keys, the pairs of a locked dict -/
def iKeysD (c : CE) : CA := fun env => (c env).bind fun d env => match d with
  | .dct .k ks _ => .ok (ks.map keyD) env
  | _ => .err
def itemsD : List Key → List D → List D
  | k :: ks, d :: ds => .tup [keyD k, d] :: itemsD ks ds
  | _, _ => []
def iItemsD (c : CE) : CA := fun env => (c env).bind fun d env => match d with
  | .dct .k ks ds => if imms ds then .ok (itemsD ks ds) env else .err
  | _ => .err
theorem rep_keyD {C : Ctx} {H : Hp} (k : Key) : Rep C H (keyD k) (kV k) [] := by
  cases k with
  | inl i => exact ⟨rfl, rfl⟩
  | inr x => exact ⟨rfl, rfl⟩
theorem itemsD_len : ∀ {ks : List Key} {ds : List D}, ks.length = ds.length → (itemsD ks ds).length = ks.length
  | [], [], _ => rfl
  | k :: ks, d :: ds, h => by simp [itemsD, itemsD_len (ks := ks) (ds := ds) (by simpa using h)]
theorem itemsD_get : ∀ {ks : List Key} {ds : List D} {i : Nat} {k : Key} {d : D}, ks[i]? = some k → ds[i]? = some d → (itemsD ks ds)[i]? = some (.tup [keyD k, d])
  | [], ds, i, k, d, h, _ => by simp at h
  | k :: ks, [], i, k', d, _, h => by simp at h
  | k :: ks, e :: ds, 0, k', d, h1, h2 => by simp at h1 h2; subst h1 h2; rfl
  | k :: ks, e :: ds, i + 1, k', d, h1, h2 => by simp only [itemsD, List.getElem?_cons_succ]; exact itemsD_get (by simpa using h1) (by simpa using h2)
section
variable {X : Cx} {W : WX} {M Rs : List Nat} {e tg : Expr} {ca : CE} {pos p : Pos}
theorem walk_keys {d : Addr} {o : Obj} {kvs : List (Key × V)} : Walk (Itk d o kvs) kvs.length (fun H => H d = some (.frz o (.dK kvs))) (fun i H x H' => H' = H ∧ ∃ k v, kvs[i]? = some (k, v) ∧ x = kV k) :=
  ⟨fun i _ hi q => ⟨q, hi⟩, fun _ q => ⟨q, Nat.le_refl _⟩, fun _ _ _ _ _ _ y => y⟩
theorem walk_items {d : Addr} {o : Obj} {kvs : List (Key × V)} : Walk (Iti d o kvs) kvs.length (fun H => H d = some (.frz o (.dK kvs))) (fun i H x H' => ∃ T k v, kvs[i]? = some (k, v) ∧ x = .ref T ∧ H T = none ∧ H' = L2.upd H T (.tup [kV k, v])) :=
  ⟨fun i _ hi q => ⟨q, hi⟩, fun _ q => ⟨q, Nat.le_refl _⟩, fun _ _ _ _ _ _ y => y⟩
theorem si_keys (h : SB X W M Rs e ca) : SI X W M Rs tg e (iKeysD ca) := by
  obtain ⟨t, pe, q⟩ := h.go
  refine ⟨iKeys t, pi_keys pe, fun C fs env σ H tf Q hC G po => ?_⟩
  show t σ H fun x H1 => _
  refine q C fs env σ H tf _ hC G ?_
  unfold iKeysD at po
  cases e1 : ca env with
  | err => rw [e1] at po; exact po
  | ex x env' => rw [e1] at po; exact po
  | ok d env1 =>
    rw [e1] at po
    intro v fs1 H1 fp own G1 s1 r1 i1
    cases d with
    | dct g ks ds =>
      cases g with
      | k =>
        have po' : PostI W C M Rs tf fs env σ H Q (.ok (ks.map keyD) env1) := po
        obtain ⟨a, kvs, f1, f2, rfl, ⟨⟨o, hz⟩, _⟩, ⟨hks, _⟩, _⟩ := r1
        refine ⟨a, o, rfl, .inl ⟨kvs, hz, po' _ fs1 H1 fp own G1 s1 ⟨?_⟩ i1⟩⟩
        have hl : (ks.map keyD).length = kvs.length := by rw [← hks]; simp
        rw [hl]
        refine Walk.mono walk_keys (fun H2 h2 => h2.2.1.z _ _ _ hz) fun i H2 x H3 hi h2 ⟨e1, k, w, e2, e3⟩ => ?_
        subst e1 e3
        exact ⟨.refl _, keyD k, by rw [← hks]; simp [e2], rep_keyD k⟩
      | _ => exact po.elim
    | _ => exact po.elim
theorem si_items {elts : List Expr} {kk : Nat} {tpos apos cpos : Pos} (h : SB X W M Rs e ca) (hbase : attributeBase e "items" X.env (eval e X.env) = eval e X.env) (hline : (apos.endLine == cpos.line) = true) :
    SI X W M Rs (.Tuple elts kk tpos) (.Call (.Attribute e "items" apos) [] [] cpos) (iItemsD ca) := by
  obtain ⟨t, pe, q⟩ := h.go
  refine ⟨iItems t, pi_items pe hbase hline, fun C fs env σ H tf Q hC G po => ?_⟩
  show t σ H fun x H1 => _
  refine q C fs env σ H tf _ hC G ?_
  unfold iItemsD at po
  cases e1 : ca env with
  | err => rw [e1] at po; exact po
  | ex x env' => rw [e1] at po; exact po
  | ok d env1 =>
    rw [e1] at po
    intro v fs1 H1 fp own G1 s1 r1 i1
    cases d with
    | dct g ks ds =>
      cases g with
      | k =>
        have po' : PostI W C M Rs tf fs env σ H Q (if imms ds then .ok (itemsD ks ds) env1 else .err) := po
        by_cases hi : imms ds = true
        · rw [if_pos hi] at po'
          obtain ⟨a, kvs, f1, f2, rfl, ⟨⟨o, hz⟩, _⟩, ⟨hks, _⟩, rz, _⟩ := r1
          have z := rz.imm hi
          subst z
          refine ⟨a, o, kvs, rfl, hz, po' _ fs1 H1 fp own G1 s1 ⟨?_⟩ i1⟩
          have hl : ks.length = kvs.length := by rw [← hks]; simp
          have hl2 : ks.length = ds.length := by
            have := reps_length rz
            rw [this, hl]; simp
          rw [itemsD_len hl2, hl]
          refine Walk.mono walk_items (fun H2 h2 => h2.2.1.z _ _ _ hz) fun i H2 x H3 hi3 h2 ⟨T, k, w, e2, e3, e4, e5⟩ => ?_
          subst e3 e5
          have le := Le.new (o := .tup [kV k, w]) e4
          obtain ⟨d, d1, d2⟩ := reps_imm_get (rz.keep (fun b hb => nomatch hb) h2.2.1) hi (i := i) (x := w) (by simp [e2])
          refine ⟨le, .tup [keyD k, d], itemsD_get (by rw [← hks]; simp [e2]) d1, T, [kV k, w], rfl, SqT.of upd_same, ?_⟩
          exact ⟨kV k, [w], [], [], rfl, rep_keyD k, ⟨w, [], [], [], rfl, d2.le le, ⟨rfl, rfl⟩, rfl⟩, rfl⟩
        · rw [if_neg hi] at po'; exact po'.elim
      | _ => exact po.elim
    | _ => exact po.elim
end
@[simp] theorem e_keysD {ca : CE} {env : Env} : iKeysD ca env = (ca env).bind fun d env => match d with
  | .dct .k ks _ => .ok (ks.map keyD) env
  | _ => .err := (rfl)
@[simp] theorem e_itemsD {ca : CE} {env : Env} : iItemsD ca env = (ca env).bind fun d env => match d with
  | .dct .k ks ds => if imms ds then .ok (itemsD ks ds) env else .err
  | _ => .err := (rfl)
end VS

set_option maxRecDepth 100000
namespace VS
open PySem L2 SeqAt PySem.Spec PyProof.Rows
/-! ### the same within an expression -/
def lendEndE (i : Nat) (d : D) (js : List Nat) : R D → R D
  | .ok r env => if r.nol && okN js env then .ok r (env.set i (some d)) else .err
  | _ => .err
def cLend (i : Nat) (js : List Nat) (c : CE) : CE := fun env => match env[i]? with
  | some (some d) => lendEndE i d js (c (env.set i (some d.lend)))
  | _ => .err
def lockEndE (i : Nat) (d : D) (js : List Nat) : R D → R D
  | .ok r env => if r.nok && okK js env then .ok r (env.set i (some d)) else .err
  | _ => .err
def cLock (i : Nat) (p : Option (Str × Str)) (js : List Nat) (c : CE) : CE := fun env => match env[i]? with
  | some (some d) => match lockD p d with
    | some d' => lockEndE i d js (c (env.set i (some d')))
    | none => .err
  | _ => .err
section
variable {X : Cx} {W : WX} {M : List Nat} {e : Expr} {c : CE}
theorem so_lend (i : Nat) (js : List Nat) (h : SO X W M e c) (hM : i ∉ M := by decide) (hj : ∀ j ∈ M, j ∈ js := by decide) : SO X W M e (cLend i js c) := by
  obtain ⟨t, p, q⟩ := h.go
  have hj' : ∀ j, j ∈ M ∨ j ∈ ([] : List Nat) → j ∈ js := fun j z => z.elim (hj j) fun z => nomatch z
  refine ⟨t, p, fun C fs env σ H tf Q hC G po => ?_⟩
  unfold cLend at po
  cases e1 : env[i]? with
  | none => rw [e1] at po; exact po.elim
  | some od =>
  cases od with
  | none => rw [e1] at po; exact po.elim
  | some d =>
  rw [e1] at po
  simp only at po
  obtain ⟨En, hd, G1⟩ := lend_in G e1
  refine q (ctxL C fs i tf H) (fs.set i []) (env.set i (some d.lend)) σ H tf Q hC G1 ?_
  cases e2 : c (env.set i (some d.lend)) with
  | err => rw [e2] at po; exact po.elim
  | ex x env' => rw [e2] at po; exact po.elim
  | ok r env' =>
    rw [e2] at po
    intro v fs' H' fp G' s rr
    cases ok : (r.nol && okN js env') with
    | false => simp only [lendEndE, ok] at po; exact po.elim
    | true =>
      simp only [lendEndE, ok, if_true] at po
      obtain ⟨o1, o2⟩ := Bool.and_eq_true_iff.mp ok
      obtain ⟨a, b⟩ := lend_out (Vs := []) G e1 hM (fun z => nomatch z) hj' G' s.ss o2
      exact po _ _ _ _ a b.s (Rep.leave (C := C) (C' := ctxL C fs i tf H) rfl rfl rfl rr o1)
theorem pe_or {t1 t2 : TE} (h1 : PE X e t1) (h2 : PE X e t2) : PE X e (fun σ H Q => t1 σ H Q ∨ t2 σ H Q) :=
  ⟨fun pins s σ H Q I hw => hw.elim (h1.run pins s σ H Q I) (h2.run pins s σ H Q I)⟩
theorem so_lock (i : Nat) (p : Option (Str × Str)) (js : List Nat) (h : SO X W M e c) (hM : i ∉ M := by decide) (hj : ∀ j ∈ M, j ∈ js := by decide) : SO X W M e (cLock i p js c) := by
  obtain ⟨t, pe, q⟩ := h.go
  have hj' : ∀ j, j ∈ M ∨ j ∈ ([] : List Nat) → j ∈ js := fun j z => z.elim (hj j) fun z => nomatch z
  refine ⟨_, pe_or pe (pe_lock pe), fun C fs env σ H tf Q hC G po => ?_⟩
  unfold cLock at po
  cases e1 : env[i]? with
  | none => rw [e1] at po; exact po.elim
  | some od =>
  cases od with
  | none => rw [e1] at po; exact po.elim
  | some d =>
  rw [e1] at po
  simp only at po
  cases hl : lockD p d with
  | none => rw [hl] at po; exact po.elim
  | some d' =>
  rw [hl] at po
  simp only at po
  obtain ⟨v, ev, r⟩ := G.rep i d e1
  obtain ⟨fe, a, kvs, h0, tr⟩ := lock_at hl r
  have frz : (∃ o, H a = some (.frz o (.dK kvs))) ∨ H a = some (.dK kvs) := by
    rcases h0.1 with z | ⟨o, z⟩
    · rcases G.fr a _ z h0.2 with q | ⟨_, _, ob, q⟩
      · exact .inr q
      · exact .inl ⟨ob, q⟩
    · rcases G.fr a _ z h0.2 with q | ⟨_, mu, ob, q⟩
      · exact .inl ⟨o, q⟩
      · exact mu.elim
  rw [fe] at r
  rcases frz with hf | hH
  · refine .inl (q C fs (env.set i (some d')) σ H tf Q hC (G.relab e1 ev (by rw [fe]; exact tr C H rfl (fun _ _ z => z) (fun _ _ z => z) ⟨hf, rfl⟩)) ?_)
    cases e2 : c (env.set i (some d')) with
    | err => rw [e2] at po; exact po.elim
    | ex x env' => rw [e2] at po; exact po.elim
    | ok r1 env' =>
      rw [e2] at po
      intro w fs' H' fp G' s rr
      cases ok : (r1.nok && okK js env') with
      | false => simp only [lockEndE, ok] at po; exact po.elim
      | true =>
        simp only [lockEndE, ok, if_true] at po
        obtain ⟨a1, b1⟩ := relab_out (Vs := []) G e1 hM (fun z => nomatch z) G' s.ss
        exact po _ _ _ _ a1 b1.s rr
  · refine .inr ⟨a, .dK kvs, hH, trivial, fun od => ?_⟩
    have G1 := lock_in (od := od) (d' := d') G e1 ev fe hH h0 (tr (ctxK C a) _ rfl (fun _ _ z => z.lockIn hH (fun q => nomatch q)) (fun _ _ z => nd_lock hH z (fun q => nomatch q)) ⟨⟨od, upd_same⟩, rfl⟩)
    refine q (ctxK C a) fs (env.set i (some d')) σ _ tf _ hC G1 ?_
    cases e2 : c (env.set i (some d')) with
    | err => rw [e2] at po; exact po.elim
    | ex x env' => rw [e2] at po; exact po.elim
    | ok r1 env' =>
      rw [e2] at po
      intro w fs' H' fp G' s rr
      cases ok : (r1.nok && okK js env') with
      | false => simp only [lockEndE, ok] at po; exact po.elim
      | true =>
        simp only [lockEndE, ok, if_true] at po
        obtain ⟨o1, o2⟩ := Bool.and_eq_true_iff.mp ok
        obtain ⟨z1, a1, b1⟩ := lock_out (Vs := []) G e1 hH h0 hM (fun z => nomatch z) hj' G' s.ss o2
        exact ⟨z1, po _ _ _ _ a1 b1.s (rr.unlock z1 o1)⟩
end
@[simp] theorem e_cLend (i : Nat) (js : List Nat) (c : CE) (env : Env) : cLend i js c env = match env[i]? with
  | some (some d) => lendEndE i d js (c (env.set i (some d.lend)))
  | _ => .err := (rfl)
@[simp] theorem e_cLock (i : Nat) (p : Option (Str × Str)) (js : List Nat) (c : CE) (env : Env) : cLock i p js c env = match env[i]? with
  | some (some d) => match lockD p d with
    | some d' => lockEndE i d js (c (env.set i (some d')))
    | none => .err
  | _ => .err := (rfl)
end VS

set_option maxRecDepth 100000
namespace VS
open PySem L2 SeqAt PySem.Spec PyProof.Rows
/-! ### defs that are called where no repr runs: they may show data -/
structure FnG (P : Program) (w : World) (K : PySem.W.Frag) (mg : Str → Option Value) (base : Heap) (k : Nat) (f : Addr) (fd : FuncData) (ps : List Str) (sp : Sp) : Prop where
  len : ∀ vs H Q E, sp vs H Q E → vs.length = ps.length
  go : ∀ (B : Around) (fr : List PySem.Env) (t : Shared) (H : Hp) (as : Args) (us : List Value) (vs : List V) (Q : VK) (E : XK), Room k B → B.guards = some [] → Env0 P w K mg base B fr t H → BindsTo t fd as (ps.zip us) → Vals vs us → sp vs H Q E →
    codeAny (model P w) B (.call (.ref f) as) (CR (L2.CX P w) fr P w H t Q E) t
section
variable {P : Program} {w : World} {K : PySem.W.Frag} {mg : Str → Option Value} {base : Heap}
theorem FnG.mono {j k : Nat} {f : Addr} {fd : FuncData} {ps : List Str} {sp : Sp} (F : FnG P w K mg base j f fd ps sp) (h : j ≤ k) : FnG P w K mg base k f fd ps sp :=
  ⟨F.len, fun B fr t H as us vs Q E hr hg => F.go B fr t H as us vs Q E (hr.mono h) hg⟩
theorem FnG.imp {k : Nat} {f : Addr} {fd : FuncData} {ps : List Str} {sp sp' : Sp} (F : FnG P w K mg base k f fd ps sp) (h : ∀ vs H Q E, sp' vs H Q E → sp vs H Q E) : FnG P w K mg base k f fd ps sp' :=
  ⟨fun vs H Q E q => F.len vs H Q E (h _ _ _ _ q), fun B fr t H as us vs Q E hr hg e0 hb hv q => F.go B fr t H as us vs Q E hr hg e0 hb hv (h _ _ _ _ q)⟩
theorem fng_of {k : Nat} {f : Addr} {nm qual : Str} {ar : Arguments} {body : List Stmt} {sco : Scope} {dV kV doc pm cdv ct oc : Value} {an od : Option Addr} {osl : Array (Option Value)} {N ps : List Str} {sp : Sp}
    (lk : K.lookup f = some ⟨oc, od, .func (PySem.W.fnOf nm qual ar body sco dV kV doc pm an cdv ct), osl⟩) (hcd : PySem.W.codeIn K cdv qual = true) (S : FnScope N ps sco) (len : ∀ vs H Q E, sp vs H Q E → vs.length = ps.length)
    (hbd : ∀ (B : Around) (fr : List PySem.Env) (t : Shared) (H : Hp) (vs : List V) (Q : VK) (E : XK), Room k (B.deeper (envOfC qual sco t.heap.objs.size f cdv)) → B.guards = some [] → sp vs H Q E →
      ∃ rd, PSs (cxOf (L2.CX P w) P w K mg base N qual sco f cdv B fr t H E) body rd ∧ rd { nx := fun _ H' => Q .non H', rt := Q } (start N vs) H) :
    FnG P w K mg base (k + 1) f (PySem.W.fnOf nm qual ar body sco dV kV doc pm an cdv ct) ps sp := by
  refine ⟨len, fun B fr t H as us vs Q E hr hgd e0 hb rv hsp => ?_⟩
  have hlen := len _ _ _ _ hsp
  have kin : K.In t.heap := e0.mod.kin.keeps fun b o e => (e0.bs b o e).1
  have nolim : t.heap.NoLimit := e0.mod.nolimit.keeps fun b o e => (e0.bs b o e).1
  have kinds : ∀ y ∈ ps.zip us, sco.names.lookup y.1 = some .local ∨ (sco.names.lookup y.1 = some .cell ∧ ((cellsFrom (t.heap.objs.size + 1) sco.names []).lookup y.1).isSome = true) := fun ⟨n, v⟩ hy =>
    (S.par n (List.of_mem_zip hy).1).elim .inl fun q => .inr ⟨q, PySem.W.cellsFrom_some _ _ _ (.inl q)⟩
  refine codeAny_call_function hr.depth (kin _ _ lk) rfl S.co S.gen rfl (PySem.W.codeRec_of kin hcd) (hb _ _ _ _ (wpAny_newFunctionEnv_cells S.kind kinds fun env he t1 x => ?_))
  subst he
  refine ⟨nolim.keeps x.toInCall.keep, codeAny_func ?_⟩
  obtain ⟨rd, hrd, hq⟩ := hbd B fr t H vs Q E (hr.deeper _) hgd hsp
  have I0 : Inv (cxOf (L2.CX P w) P w K mg base N qual sco f cdv B fr t H E) [] (start N vs) H t1 := inv_start S hr.hd e0 hlen rv x
  refine wpAny_mono (hrd.run [] t1 (start N vs) H _ I0 hq) (fun fl t' hs => ?_) fun e t' hs => hs
  cases fl with
  | ret u => exact let ⟨v, _, H', J, rr, q⟩ := hs; ⟨v, H', J.os, J.bare, J.base, J.hok, rr, q⟩
  | next => exact let ⟨_, H', J, q⟩ := hs; ⟨V.non, H', J.os, J.bare, J.base, J.hok, rfl, q⟩
  | brk => exact let ⟨_, _, _, q⟩ := hs; q.elim
  | cont => exact let ⟨_, _, _, q⟩ := hs; q.elim
theorem fn_okG {x qual : Str} {st : Stmt} {f : Addr} {fd : FuncData} {N ps : List Str} {k : Nat} {io : List Bool} {c : CS} {M Vs : List Nat}
    (F : Fun K x qual st f fd) (S : FnScope N ps (defScope st)) (hio : io.length = ps.length) (hv : djB (ioSlots 0 io) Vs = true)
    (hb : ∀ (cdv : Value) (A : Around) (outer : List PySem.Env) (s : Shared) (H : Hp) (E : XK), Room k (A.deeper (envOfC qual (defScope st) s.heap.objs.size f cdv)) → A.guards = some [] →
      SSs (cxOf (L2.CX P w) P w K mg base N qual (defScope st) f cdv A outer s H E) (fun cls d _ H => E cls d H) M Vs (defBody st) c) :
    FnG P w K mg base (k + 1) f fd ps (spF K mg io (fnRun N.length io c)) := by
  obtain ⟨oc, od, kV, doc, pm, an, cdv, ct, osl, rfl, lk, hcd⟩ := F.ex
  exact fng_of lk hcd S (fun vs H Q E h => by obtain ⟨Lk, ds, fps, hl, _⟩ := h; rw [hl, hio]) fun B fr t H vs Q E hr hg hsp => fn_core rfl rfl S hio hv (hb cdv B fr t H E hr hg) hsp
end
/-- a def of the module that comes to φ, called where no repr runs -/
def FdG (P : Program) (w : World) (K : PySem.W.Frag) (mg : Str → Option Value) (base : Heap) (k : Nat) (x : Str) (ps : List Str) (io : List Bool) (φ : List D → FR) : Prop :=
  ∃ (f : Addr) (fd : FuncData), FnG P w K mg base k f fd ps (spF K mg io φ) ∧ mg x = some (.ref f) ∧ PySem.W.keepIn K (.ref f) = true ∧ Binds K fd ps []
theorem fdg_mk {P : Program} {w : World} {K : PySem.W.Frag} {mg : Str → Option Value} {base : Heap} {k : Nat} {x : Str} {st : Stmt} {f : Addr} {fd : FuncData} {ps : List Str} {io : List Bool} {φ : List D → FR} (F : Fun K x x st f fd) (hm : mg x = some (.ref f)) (hb : Binds K fd ps [])
    (h : FnG P w K mg base k f fd ps (spF K mg io φ)) : FdG P w K mg base k x ps io φ := ⟨f, fd, h, hm, F.kp, hb⟩
theorem FdG.mono {P : Program} {w : World} {K : PySem.W.Frag} {mg : Str → Option Value} {base : Heap} {j k : Nat} {x : Str} {ps : List Str} {io : List Bool} {φ : List D → FR} (F : FdG P w K mg base j x ps io φ) (h : j ≤ k) : FdG P w K mg base k x ps io φ :=
  let ⟨f, fd, G, a, b, c⟩ := F
  ⟨f, fd, G.mono h, a, b, c⟩
section
variable {X : Cx} {W : WX} {M Rs : List Nat} {e : Expr} {es : List Expr} {pos : Pos} {cr : Env → R (List AV)} {io : List Bool}
theorem run_g {k : Nat} {f : Addr} {fd : FuncData} {ps : List Str} {sp : Sp} {E : L2.St → XK} {pins : List (Addr × Obj)} {σ : L2.St} {H : Hp} {s : Shared} {Q : VK} {us : List Value} {vs : List V} (F : FnG X.prog X.w X.K X.mg X.base k f fd ps sp) (hr : Room k X.A) (hg : X.A.guards = some []) (hb : Binds X.K fd ps [])
    (hx : PassesAt (L2.CX X.prog X.w) X σ (E σ)) (I : Inv X pins σ H s) (rv : Vals vs us) (h : sp vs H Q (E σ)) : wpAny (model X.prog X.w) X.A (call (.ref f) us) (EP X pins σ Q) X.xe s := by
  have hlen : us.length = ps.length := by rw [← rv.length]; exact F.len _ _ _ _ h
  have bd := hb s us I.kIn (by rw [List.append_nil]; exact hlen)
  rw [List.append_nil] at bd
  refine wpAny_call (codeAny_mono (F.go X.A X.stack s H ⟨us, []⟩ us vs Q (E σ) hr hg I.env0 bd rv h) fun out t hq => ?_)
  match out, hq with
  | .error e, hq => exact hx pins H s e t I hq
  | .ok (.ret u), hq => exact I.after hq
  | .ok .next, hq => exact hq.elim
  | .ok .brk, hq => exact hq.elim
  | .ok .cont, hq => exact hq.elim
theorem so_callG {k : Nat} {x : Str} {ps : List Str} {φ : List D → FR} {pf : Pos} (F : FdG X.prog X.w X.K X.mg X.base k x ps io φ) (hr : Room k X.A) (hgd : X.A.guards = some []) (tk : Takes X W) (ha : SRI X W M Rs io (e :: es) cr) (hg : Gl X x := by rfl)
    (hdb : (x == ("__debug__" : Str)) = false := by decide) (he : starEach (e :: es) X.env = (false, eval e X.env) :: starEach es X.env := by rfl) (hpl : (backTo pos (starEach es X.env)).any (·.1) = false := by rfl) :
    SO X W M (.Call (.Name x pf) (e :: es) [] pos) (cCall φ cr) := by
  obtain ⟨f, fd, G, hm, hk, hb⟩ := F
  obtain ⟨t, p, q⟩ := ha.sr.go
  refine ⟨tCallS (spF X.K X.mg io φ) (WE W) t, ⟨fun pins s σ H Q I h => wpAny_Call_Name_kw (ld_glob I hg hm (PySem.W.callWith_K (h₀ := X.base) I.ok.mod.kin hk (thn (p.run pos pins s σ H _ I h) fun us s1 ⟨vs, H1, I1, r, q1⟩ => ⟨I1.kIn, run_g G hr hgd hb (passAt tk σ) I1 r q1⟩) he hpl) hdb)⟩, ?_⟩
  exact call_go (E := WE W) (fun _ _ _ _ h => h) ha.shape q (by unfold djB; simp)
end
/-! ### repr(x), str(x) of data -/
mutual
theorem py_nodict : ∀ {d : D} {y : PyData}, d.py = some y → y.hasDict = false
  | .non, y, h => by cases h; rfl
  | .bl b, y, h => by cases h; rfl
  | .int i, y, h => by cases h; rfl
  | .str s, y, h => by cases h; rfl
  | .tup ds, y, h => by
    obtain ⟨ys, hy, rfl⟩ := Option.map_eq_some_iff.mp h
    show PyData.hasDictAll ys = false
    exact pys_nodict hy
  | .lst g ds, y, h => by
    obtain ⟨ys, hy, rfl⟩ := Option.map_eq_some_iff.mp h
    show PyData.hasDictAll ys = false
    exact pys_nodict hy
  | .ty _, _, h => by cases h
  | .dct _ _ _, _, h => by cases h
  | .obj _ _ _ _, _, h => by cases h
theorem pys_nodict : ∀ {ds : List D} {ys : List PyData}, pys ds = some ys → PyData.hasDictAll ys = false
  | [], ys, h => by cases h; rfl
  | d :: ds, ys, h => by
    obtain ⟨y, hy, h⟩ := Option.bind_eq_some_iff.mp h
    obtain ⟨ys', hys, rfl⟩ := Option.map_eq_some_iff.mp h
    show (PyData.hasDict y || PyData.hasDictAll ys') = false
    rw [py_nodict hy, pys_nodict hys]; rfl
end
def shOk (y : PyData) : Bool := y.showable && decide (y.shown.length ≤ sizeLine) && decide (y.depth ≤ 100)
def pRepr : List D → Option D
  | [d] => match d.py with
    | some y => if shOk y then some (.str y.shown) else none
    | none => none
  | _ => none
def pStrI : List D → Option D
  | [.int i] => if i.natAbs.log2 < 1920 then some (.str (toString i)) else none
  | [.str z] => some (.str z)
  | _ => none
def pStr : List D → Option D
  | [.tup ds] => pRepr [.tup ds]
  | [.lst g ds] => pRepr [.lst g ds]
  | [.int i] => if i.natAbs.log2 < 1920 then some (.str (toString i)) else none
  | [.str z] => some (.str z)
  | _ => none
section
variable {X : Cx}
theorem od_repr {k : Nat} (hr : Room k X.A) (hg : X.A.guards = some []) : ODL X (.builtin "repr") pRepr := by
  intro pins s σ H xs us Q I rv ⟨C, ds, fx, d, hC, hF, rs, e, k⟩
  unfold pRepr at e
  split at e
  case h_2 => cases e
  rename_i d0
  split at e
  case h_2 => cases e
  rename_i y hy
  split at e
  case isFalse => cases e
  rename_i hk
  cases e
  simp only [shOk, Bool.and_eq_true, decide_eq_true_eq] at hk
  obtain ⟨v, rfl, r⟩ := reps1 rs
  obtain ⟨u, rfl, ru⟩ := vals1 rv
  obtain ⟨as, hrd, _⟩ := reads_rep I hC hF hy r ru
  have hun := hr.un
  have hnd := py_nodict hy
  have fin : ∀ tk, EP X pins σ Q (.str y.shown tk) { s with toks := s.toks + 1 } := fun tk => ⟨.str y.shown, H, I.tok _, ⟨tk, rfl⟩, k.here ⟨rfl, rfl⟩⟩
  cases hrd with
  | none => exact PySem.P.repr_of_none (fin _)
  | bool b => exact PySem.P.repr_of_bool (fin _)
  | int i t => exact PySem.P.repr_of_int (by simpa [PyData.showable] using hk.1.1) (fin _)
  | str z t =>
    exact PySem.P.repr_of_str (fin _) hk.1.2
  | list h1 h2 h3 h4 =>
    refine repr_of_reads' (.list h1 h2 h3 h4) hk.1.1 (PyData.noDict_hsm hnd) hg (by have := hk.2; omega) (fun _ _ e => e) (fun h' u tk hk' => ?_) hk.1.2
    exact ⟨.str _, H, I.kept (t' := tk) fun b o q => hk' b o q, ⟨_, rfl⟩, k.here ⟨rfl, rfl⟩⟩
  | tuple h1 h2 h3 h4 =>
    refine repr_of_reads' (.tuple h1 h2 h3 h4) hk.1.1 (PyData.noDict_hsm hnd) hg (by have := hk.2; omega) (fun _ _ e => e) (fun h' u tk hk' => ?_) hk.1.2
    exact ⟨.str _, H, I.kept (t' := tk) fun b o q => hk' b o q, ⟨_, rfl⟩, k.here ⟨rfl, rfl⟩⟩
  | dict h1 h2 h3 h4 h5 => simp [PyData.hasDict] at hnd
theorem od_strI : ODL X (.type "str") pStrI := by
  intro pins s σ H xs us Q I rv ⟨C, ds, fx, d, hC, hF, rs, e, k⟩
  unfold pStrI at e
  split at e
  · rename_i i
    split at e
    case isFalse => cases e
    rename_i hk
    cases e
    obtain ⟨v, rfl, r⟩ := reps1 rs
    obtain ⟨rfl, _⟩ := r
    exact call_str_int pins s σ H _ us Q I rv ⟨i, rfl, hk, k.here ⟨rfl, rfl⟩⟩
  · rename_i z
    cases e
    obtain ⟨v, rfl, r⟩ := reps1 rs
    obtain ⟨rfl, _⟩ := r
    exact SkE.call_str_str pins s σ H _ us Q I rv ⟨z, rfl, k.here ⟨rfl, rfl⟩⟩
  · cases e
theorem od_str {k : Nat} (hr : Room k X.A) (hg : X.A.guards = some []) : ODL X (.type "str") pStr := by
  intro pins s σ H xs us Q I rv ⟨C, ds, fx, d, hC, hF, rs, e, k⟩
  have leaf := od_strI pins s σ H xs us Q I rv
  have gen : ∀ d0, ds = [d0] → pRepr [d0] = some d → (∃ ys, d0.py = some (.list ys)) ∨ (∃ ys, d0.py = some (.tuple ys)) → wpAny (model X.prog X.w) X.A (call (.type "str") us) (EP X pins σ Q) X.xe s := by
    intro d0 hd e1 hs
    subst hd
    unfold pRepr at e1
    simp only at e1
    split at e1
    case h_2 => cases e1
    rename_i y hy
    split at e1
    case isFalse => cases e1
    rename_i hk
    cases e1
    simp only [shOk, Bool.and_eq_true, decide_eq_true_eq] at hk
    obtain ⟨v, rfl, r⟩ := reps1 rs
    obtain ⟨u, rfl, ru⟩ := vals1 rv
    obtain ⟨as, hrd, _⟩ := reads_rep I hC hF hy r ru
    have hun := hr.un
    have hnd := py_nodict hy
    cases hrd with
    | list h1 h2 h3 h4 =>
      refine str_of_reads (.list h1 h2 h3 h4) hk.1.1 (PyData.noDict_hsm hnd) hg (by have := hk.2; omega) (fun _ _ e => e) (fun h' u tk hk' => ?_) hk.1.2
      exact ⟨.str _, H, I.kept (t' := tk) fun b o q => hk' b o q, ⟨_, rfl⟩, k.here ⟨rfl, rfl⟩⟩
    | tuple h1 h2 h3 h4 =>
      refine str_of_reads (.tuple h1 h2 h3 h4) hk.1.1 (PyData.noDict_hsm hnd) hg (by have := hk.2; omega) (fun _ _ e => e) (fun h' u tk hk' => ?_) hk.1.2
      exact ⟨.str _, H, I.kept (t' := tk) fun b o q => hk' b o q, ⟨_, rfl⟩, k.here ⟨rfl, rfl⟩⟩
    | _ => rcases hs with ⟨ys, z⟩ | ⟨ys, z⟩ <;> rw [hy] at z <;> cases z
  unfold pStr at e
  split at e
  · rename_i ds0
    refine gen _ rfl e (.inr ?_)
    unfold pRepr at e
    simp only at e
    split at e
    · rename_i y hy
      obtain ⟨ys, _, rfl⟩ := Option.map_eq_some_iff.mp hy
      exact ⟨ys, hy⟩
    · cases e
  · rename_i g ds0
    refine gen _ rfl e (.inl ?_)
    unfold pRepr at e
    simp only at e
    split at e
    · rename_i y hy
      obtain ⟨ys, _, rfl⟩ := Option.map_eq_some_iff.mp hy
      exact ⟨ys, hy⟩
    · cases e
  · exact leaf ⟨C, _, fx, d, hC, hF, rs, e, k⟩
  · exact leaf ⟨C, _, fx, d, hC, hF, rs, e, k⟩
  · cases e
end
/-! ### the law's end, over a def that may show data -/
theorem law_impG {P : Program} {w : World} {K : PySem.W.Frag} {mg : Str → Option Value} {base : Heap} {k : Nat} {f : Addr} {fd : FuncData} {x : Str} {φ : List D → FR} (F : FnG P w K mg base k f fd [x] (spF K mg [false] φ))
    (h : ∀ ns : List Int, ns.length ≤ 63 → (∀ z ∈ ns, Builtin.Int.intBits z ≤ 1048576) → φ [.lst .l (ns.map D.int)] = .ok (.bl true) []) : FnG P w K mg base k f fd [x] (spLaw K) := by
  refine F.imp fun vs H Q E ⟨a, ns, e, sq, h1, h2, q⟩ => ?_
  subst e
  refine ⟨[], [.lst .l (ns.map D.int)], [[]], rfl, ⟨_, [], _, [], [], [], rfl, rfl, rfl, ⟨a, ns.map V.int, [], [], rfl, ⟨?_, rfl⟩, reps_ints ns, .inr rfl, rfl⟩, .inr rfl, ⟨rfl, rfl, rfl⟩⟩, by simp, (fun _ z => nomatch z), ?_⟩
  · exact sq.elim (fun z => .inl ⟨z, by simp⟩) fun z => .inr ⟨_, rfl, z⟩
  · rw [h ns h1 h2]
    intro v H' fp fps _ _ r _ _ _
    obtain ⟨rfl, _⟩ := r
    exact q H'
section
variable {P : Program} {w : World} {K : PySem.W.Frag} {mg mb : Str → Option Value} {k : Nat} {fa a : Addr} {fd : FuncData} {x : Str} {t : Shared} {vs : List Value} {ns : List Int}
theorem core_g {H : Hp} (kin : K.In t.heap) (hns : t.heap.Ns mainGlobals mg) (hb : t.heap.Ns builtinsNs mb) (hbb : ∀ x : Str, x ≠ "__name__" → mb x = bootBuiltins x) (nolim : t.heap.NoLimit) (hg : t.gens = #[])
    (ha : t.heap.get? a = some { cls := .type "list", data := .seq vs.toArray }) (hr : Room k callerA) (F : ∀ base : Heap, K.In base → base.Ns mainGlobals mg → FnG P w K mg base k fa fd [x] (spLaw K))
    (hbind : ∀ (s : Shared) (u : Value), BindsTo s fd ⟨[u], []⟩ [(x, u)]) (hl : ns.length ≤ 63) (hz : ∀ z ∈ ns, Builtin.Int.intBits z ≤ 1048576)
    (hO : Only H) (hS : SqL K H a (ns.map V.int)) (hok : HOk P w H t.heap) (hA : ∀ b, H b ≠ none → b = a) (hK : H a ≠ none → K.lookup a = none) :
    codeAny (model P w) callerA (.call (.ref fa) ⟨[.ref a], []⟩) (fun r t' => r = .ok (.ret (.bool true)) ∧ OldK t.heap t'.heap ∧ t'.os = t.os ∧ AllBare t'.gens) t := by
  have only : ∀ {b : Addr} {u : HO}, H b = some u → b = a := fun {b u} e => hA b fun z => by rw [z] at e; cases e
  have notA : ∀ {b : Addr} {o : Obj} {es : Array DictEntry} {ep : Nat}, t.heap.get? b = some o → o.data = .dict es ep → H b = none := fun {b o es ep} e d => by
    rcases hH : H b with _ | u
    · rfl
    · rw [only hH, ha] at e
      cases e
      exact nomatch (show Data.seq vs.toArray _ = Data.dict es ep from d)
  have ns' : ∀ {b : Addr} {m : Str → Option Value}, t.heap.Ns b m → (hidT t.heap H).Ns b m := fun ⟨o, es, ep, e, d, r⟩ => ⟨o, es, ep, hidT_get e (notA e d), d, r⟩
  have kin' : K.In (hidT t.heap H) := fun b o e => hidT_get (kin b o e) (by
    rcases hH : H b with _ | u
    · rfl
    · have eb := only hH
      rw [eb] at hH e
      rw [hK (by rw [hH]; exact nofun)] at e
      cases e)
  have mo : Mod K mg (hidT t.heap H) := ⟨kin', ns' hns, ⟨mb, ns' hb, hbb⟩, nolim.elim fun mc h => ⟨mc, ns' h.1, h.2⟩⟩
  have e0 : Env0 P w K mg (hidT t.heap H) callerA [] t H := ⟨rfl, mo, fun _ _ e => of_hidT e, Nat.le_of_eq (hidT_size _ _), trivial, fun b hb => (List.not_mem_nil (show b ∈ ([] : List Addr) from hb)).elim, hok, .of_eq hg⟩
  refine codeAny_mono ((F _ kin' (ns' hns)).go callerA [] t H ⟨[.ref a], []⟩ [.ref a] [.ref a] (fun v _ => v = .bl true) (fun _ _ _ => False) hr rfl e0 (hbind t (.ref a)) (.cons rfl .nil) ⟨a, ns, rfl, hS, hl, hz, fun _ => rfl⟩) fun out t' h => ?_
  match out, h with
  | .error e, h =>
    obtain ⟨_, _, _, _, _, _, _, _, _, _, _, _, no⟩ := h
    exact no.elim
  | .ok .next, h => exact h.elim
  | .ok .brk, h => exact h.elim
  | .ok .cont, h => exact h.elim
  | .ok (.ret u), h =>
    obtain ⟨v, H', os, bare, un, hok', ru, q⟩ := h
    have ev : v = .bl true := q
    subst ev
    obtain rfl : u = Value.bool true := ru
    refine ⟨rfl, OldK.of_keep fun b o e => ?_, os, bare⟩
    rcases hH : H b with _ | u
    · exact un.keep b o e hH (fun z => (List.not_mem_nil (show b ∈ ([] : List Addr) from z)).elim) (by simp)
    · rcases hO b with z | ⟨ob, xs, z⟩
      · rw [hH] at z; cases z
      · obtain ⟨e1, _⟩ := hok b _ z
        obtain ⟨e2, _⟩ := hok' b _ (un.frzs b ob _ z)
        rw [e] at e1
        cases e1
        exact e2
theorem call_g (kin : K.In t.heap) (hns : t.heap.Ns mainGlobals mg) (hb : t.heap.Ns builtinsNs mb) (hbb : ∀ x : Str, x ≠ "__name__" → mb x = bootBuiltins x) (nolim : t.heap.NoLimit) (hg : t.gens = #[])
    (ha : t.heap.get? a = some { cls := .type "list", data := .seq vs.toArray }) (hi : IntsAre vs ns) (hr : Room k callerA) (F : ∀ base : Heap, K.In base → base.Ns mainGlobals mg → FnG P w K mg base k fa fd [x] (spLaw K))
    (hbind : ∀ (s : Shared) (u : Value), BindsTo s fd ⟨[u], []⟩ [(x, u)]) (hl : ns.length ≤ 63) (hz : ∀ z ∈ ns, Builtin.Int.intBits z ≤ 1048576) :
    codeAny (model P w) callerA (.call (.ref fa) ⟨[.ref a], []⟩) (fun r t' => r = .ok (.ret (.bool true)) ∧ OldK t.heap t'.heap ∧ t'.os = t.os ∧ AllBare t'.gens) t := by
  have rv := vals_ints hi
  have room : ns.length ≤ sizeLine := Nat.le_trans hl (by decide)
  cases hk : K.lookup a with
  | some o =>
    have e := kin a o hk
    rw [ha] at e
    cases e
    refine core_g (H := fun _ => none) kin hns hb hbb nolim hg ha hr F hbind hl hz (fun _ => .inl rfl) (.inr ⟨_, vs.toArray, _, hk, rfl, rfl, rfl, ?_, by simpa using rv⟩) (fun b u z => nomatch (show (none : Option HO) = some u from z)) (fun b z => absurd rfl z) fun z => absurd rfl z
    rw [List.size_toArray, hi.length]; exact room
  | none =>
    let o0 : Obj := { cls := .type "list", data := .seq vs.toArray }
    let H0 : Hp := fun b => if b = a then some (.frz o0 (.lst (ns.map V.int))) else none
    have yes : H0 a = some (.frz o0 (.lst (ns.map V.int))) := if_pos rfl
    have no : ∀ b, b ≠ a → H0 b = none := fun b hb => if_neg hb
    refine core_g (H := H0) kin hns hb hbb nolim hg ha hr F hbind hl hz (fun b => ?_) (.inl (.inr ⟨o0, yes⟩)) (fun b u z => ?_) (fun b z => Classical.byContradiction fun hb => z (no b hb)) fun _ => hk
    · by_cases hb : b = a
      · rw [hb]; exact .inr ⟨_, _, yes⟩
      · exact .inl (no b hb)
    · by_cases hb : b = a
      · rw [hb, yes] at z
        cases z
        rw [hb]
        exact ⟨ha, by rw [List.length_map]; exact room, vs, _, rv, ha⟩
      · rw [no b hb] at z; cases z
end
theorem walkG {l : PySem.W.OpenLaw} {k : Nat} {q : Program} {loose : List Str} {XP : (Str → Option Value) → Heap → Prop} {YP : World → Heap → Prop} {d : DefRec} {K : Params → PySem.W.Frag} {x : Str}
    (hn : l.most = some 63) (hdf : d.params.defaults = []) (hr : Room k callerA)
    (hY : ∀ (w : World) (h : Heap), YP w h → (K w.params).In h)
    (F : ∀ (w : World) (mg : Str → Option Value) (fa : Addr) (h : Heap), (K w.params).In h → h.Ns mainGlobals mg → mg d.name = some (.ref fa) →
      ∃ fd : FuncData, (∀ (s : Shared) (u : Value), BindsTo s fd ⟨[u], []⟩ [(x, u)]) ∧ ∀ base : Heap, (K w.params).In base → base.Ns mainGlobals mg → FnG l.prog w (K w.params) mg base k fa fd [x] (spLaw (K w.params))) :
    PySem.W.WalkO q loose XP YP l.row.toRowW d [] (fun f vs => PySem.call f vs) := by
  refine Att.attach_callB hn hdf fun w t0 t mg mb fa o pm cd doc a vs ns G Y ho hd hcd hmg hobj hints hlen hbits hgen => ?_
  obtain ⟨fd, hb, hF⟩ := F w mg fa _ (hY w _ Y) G.T.g hmg
  exact call_g (hY w _ Y) G.T.g G.T.b G.T.builtins G.T.nolimit hgen hobj hints hr hF hb hlen hbits
end VS

set_option maxRecDepth 100000
namespace VS
open PySem L2 SeqAt PySem.Spec PyProof.Rows
/-! ### (x, f(x)): the first is a name that the others look at; it is moved last -/
def cLate (i : Nat) (cs : CA) : CA := fun env => match env[i]? with
  | some (some d) => (cs env).bind fun ds env => .ok (d :: ds) (if d.imm then env else env.set i none)
  | _ => .err
section
variable {X : Cx} {W : WX} {M : List Nat} {es : List Expr} {cs : CA} {pos : Pos}
theorem sao_late (i : Nat) {x : Str} (hr : SAO X W M es cs) (hi : i ∉ M) (hN : X.N[i]? = some x) (hv : Vis X.env.scope x) (hd : (x == ("__debug__" : Str)) = false) (hcd : (x == ("__classdict__" : Str)) = false)
    (hs : starEach (.Name x pos :: es) X.env = (false, eval (.Name x pos) X.env) :: starEach es X.env) : SAO X W ([i] ++ M) (.Name x pos :: es) (cLate i cs) := by
  obtain ⟨t2, p2, q2⟩ := hr.go
  refine ⟨tCons (tVar i) t2, pa_cons (pe_var hN hv hd hcd) p2 hs, fun C fs env σ H tf Q hC G po => ?_⟩
  unfold cLate at po
  split at po
  case h_2 => exact po.elim
  rename_i d e1
  obtain ⟨v, e2, r⟩ := G.rep i d e1
  refine ⟨v, e2, q2 C fs env σ H tf _ hC G ?_⟩
  cases e3 : cs env with
  | err => rw [e3] at po; exact po
  | ex y env' =>
    rw [e3] at po
    exact fun cv dd fs' H' G' s => po cv dd fs' H' G' (s.weak (fun j hj => List.mem_append_right _ hj) fun _ z => z)
  | ok ds env2 =>
    rw [e3] at po
    intro vs fs2 H2 fp2 G2 s2 r2
    have ei : env2[i]? = some (some d) := (s2.e i hi).trans e1
    have rd : Rep C H2 d v (fs2.getD i []) := by rw [s2.f i hi]; exact r.keep (fun a ha => s2.h i hi a ha) s2.m
    have po2 : ∀ vs fs' H' fp, Good C fs' (if d.imm then env2 else env2.set i none) σ H' (fp ++ tf) → Step ([i] ++ M) tf fs env H fs' (if d.imm then env2 else env2.set i none) H' → Reps C H' (d :: ds) vs fp → Q vs H' := po
    by_cases hm : d.imm = true
    · simp only [hm, if_true] at po2
      have z := rd.imm hm
      rw [z] at rd
      exact po2 (v :: vs) fs2 H2 fp2 G2 (s2.weak (fun j hj => List.mem_append_right _ hj) fun _ z => z) ⟨v, vs, [], fp2, rfl, rd, r2, rfl⟩
    · simp only [hm] at po2
      have lt := G2.lt ei
      refine po2 (v :: vs) (fs2.set i []) H2 (fs2.getD i [] ++ fp2) (by rw [List.append_assoc]; exact G2.mv ei) ⟨s2.t, fun j hj => ?_, fun j hj => ?_, fun j hj a ha => s2.h j (fun z => hj (List.mem_append_right _ z)) a ha, s2.m⟩ ⟨v, vs, _, fp2, rfl, rd, r2, rfl⟩
      · rw [getD_set fs2 i j [] lt, if_neg (fun z => hj (by simp [z]))]
        exact s2.f j fun z => hj (List.mem_append_right _ z)
      · rw [if_neg (by simp), List.getElem?_set, if_neg (fun z => hj (by simp [z]))]
        exact s2.e j fun z => hj (List.mem_append_right _ z)
end
@[simp] theorem e_late (i : Nat) (cs : CA) (env : Env) : cLate i cs env = match env[i]? with
  | some (some d) => (cs env).bind fun ds env => .ok (d :: ds) (if d.imm then env else env.set i none)
  | _ => .err := (rfl)
/-! ### f(x, g(x)): the first is a name that f may change, the others may change it too -/
def aOwL (i : Nat) (cr : Env → R (List AV)) : Env → R (List AV) := fun env => match env[i]? with
  | some (some _) => (cr env).bind fun as env => match env[i]? with
    | some (some d) => .ok (.ow d (some i) :: as) (env.set i none)
    | _ => .err
  | _ => .err
theorem AOk.fs {C : Ctx} {H : Hp} {σ : L2.St} {Ms Rs : List Nat} {fs fs' : FPs} {ownr : List Addr} (h : ∀ r ∈ Rs, ∀ a ∈ fs.getD r [], a ∈ fs'.getD r []) : ∀ {avs vs fps}, AOk C H σ Ms Rs fs ownr avs vs fps → AOk C H σ Ms Rs fs' ownr avs vs fps
  | [], _, _, x => x
  | .ro d :: as, vs, fps, ⟨v, vs', fp, fps', e1, e2, r, i, x⟩ => ⟨v, vs', fp, fps', e1, e2, r, fun a ha => (i a ha).elim .inl fun ⟨r, hr, z⟩ => .inr ⟨r, hr, h r hr a z⟩, AOk.fs h x⟩
  | .ow d wb :: as, vs, fps, ⟨v, vs', fp, fps', e1, e2, r, i, x⟩ => ⟨v, vs', fp, fps', e1, e2, r, i, AOk.fs h x⟩
section
variable {X : Cx} {W : WX} {M Rs : List Nat} {es : List Expr} {cr : Env → R (List AV)} {io : List Bool} {pos : Pos}
theorem sri_late (i : Nat) {x : Str} (hr : SRI X W M Rs io es cr) (hi : i ∉ Rs) (hN : X.N[i]? = some x) (hv : Vis X.env.scope x) (hd : (x == ("__debug__" : Str)) = false) (hcd : (x == ("__classdict__" : Str)) = false)
    (hs : starEach (.Name x pos :: es) X.env = (false, eval (.Name x pos) X.env) :: starEach es X.env) : SRI X W ([i] ++ M) Rs (true :: io) (.Name x pos :: es) (aOwL i cr) := by
  refine ⟨?_, fun env avs env' h => ?_⟩
  · obtain ⟨t2, p2, q2⟩ := hr.sr.go
    refine ⟨tCons (tVar i) t2, pa_cons (pe_var hN hv hd hcd) p2 hs, fun C fs env σ H tf Q hC G po => ?_⟩
    unfold aOwL at po
    split at po
    case h_2 => exact po.elim
    rename_i d0 e1
    obtain ⟨v, e2, r⟩ := G.rep i d0 e1
    refine ⟨v, e2, q2 C fs env σ H tf _ hC G ?_⟩
    cases e3 : cr env with
    | err => rw [e3] at po; exact po
    | ex y env' =>
      rw [e3] at po
      exact fun cv dd fs' H' G' s => po cv dd fs' H' G' (s.weak (fun j hj => List.mem_append_right _ hj) fun _ z => z)
    | ok as env2 =>
      rw [e3] at po
      intro vs fs2 H2 fps ownr G2 s2 r2
      simp only [R.bind] at po
      split at po
      case h_2 => exact po.elim
      rename_i d ei
      obtain ⟨v', e4, rd⟩ := G2.rep i d ei
      rw [e2] at e4
      cases e4
      have lt := G2.lt ei
      refine po (v :: vs) (fs2.set i []) H2 (fs2.getD i [] :: fps) ownr (by simpa using G2.mv ei) ⟨s2.t, fun j hj => ?_, fun j hj => ?_, fun j hj a ha => s2.h j (fun z => hj (List.mem_append_right _ z)) a ha, s2.m⟩ ⟨v, vs, _, fps, rfl, rfl, rd, ⟨e2, by simp⟩, ?_⟩
      · rw [getD_set fs2 i j [] lt, if_neg (fun z => hj (by simp [z]))]
        exact s2.f j fun z => hj (List.mem_append_right _ z)
      · rw [List.getElem?_set, if_neg (fun z => hj (by simp [z]))]
        exact s2.e j fun z => hj (List.mem_append_right _ z)
      · refine AOk.fs (fun r hr a ha => ?_) (r2.mono (fun j hj => List.mem_append_right _ hj) (fun _ z => z) fun _ z => z)
        rw [getD_set fs2 i r [] lt, if_neg (fun z : r = i => hi (by rw [← z]; exact hr))]; exact ha
  · unfold aOwL at h
    split at h
    · obtain ⟨as, e1, h1, h2⟩ := R.bind_ok h
      split at h2
      · cases h2
        simp [AV.io, hr.shape _ _ _ h1]
      · cases h2
    · cases h
end
@[simp] theorem e_aowL (i : Nat) (cr : Env → R (List AV)) (env : Env) : aOwL i cr env = match env[i]? with
  | some (some _) => (cr env).bind fun as env => match env[i]? with
    | some (some d) => .ok (.ow d (some i) :: as) (env.set i none)
    | _ => .err
  | _ => .err := (rfl)
end VS

set_option maxRecDepth 100000
namespace VS
open PySem L2 SeqAt PySem.Spec PyProof.Rows
section
variable {α β : Type} (env : Env) (i j : Nat) (c ca cb cc cd : CE) (cs : CA) (ct : CT) (ta tb : CT) (d : D) (p q : D → D → Option D) (p1 : D → Option D) (pl : List D → Option D) (s1 s2 : CS) (g : D → Env → Option Env) (cn f m : Str) (cl : CL) (cr : Env → R (List AV)) (φ : List D → FR)
@[simp] theorem e_fld : cFld cn f ca env = (ca env).bind fun d env => R.of (fldD cn f d) env := (rfl)
@[simp] theorem e_setf : sSetF i cn f cl ca env = match ca env with
  | .ok x env1 => (match cl env1 with
    | .ok dF env2 => (match stF cn f dF.1 x with
      | some d' => .nx (env2.set i (some (dF.2 d')))
      | none => .err)
    | _ => .err)
  | .ex x env => .ex x env
  | .err => .err := (rfl)
@[simp] theorem e_lfld : lFld cn f cl env = (cl env).bind fun dF env => match kidF cn f dF.1 with
  | some (x, G) => .ok (x, dF.2 ∘ G) env
  | none => .err := (rfl)
@[simp] theorem e_lidx : lIdx cl cb env = (cl env).bind fun dF env => (cb env).bind fun y env => match kidD dF.1 y with
  | some (x, G) => .ok (x, dF.2 ∘ G) env
  | none => .err := (rfl)
@[simp] theorem e_aug (gi : Int → Int → Int) : sAug i gi ca env = match env[i]? with
  | some (some (.int x)) => (match ca env with
    | .ok (.int y) env1 => .nx (env1.set i (some (.int (gi x y))))
    | .ok _ _ => .err
    | .ex x env => .ex x env
    | .err => .err)
  | _ => .err := (rfl)
@[simp] theorem e_daug (gi : Int → Int → Int) : VS.sDAug i gi cl cb ca env = match cl env with
  | .ok dF env1 => (match cb env1 with
    | .ok y env2 => (match intAt dF.1 y with
      | some x => (match ca env2 with
        | .ok (.int z) env3 => (match stD dF.1 y (.int (gi x z)) with
          | some d' => .nx (env3.set i (some (dF.2 d')))
          | none => .err)
        | _ => .err)
      | none => .err)
    | _ => .err)
  | _ => .err := (rfl)
@[simp] theorem e_arom : aRoM cn m ca cr env = (ca env).bind fun d env => if mthOk cn m d then ((cr env).bind fun as env => .ok (.ro d :: as) env) else .err := (rfl)
@[simp] theorem e_aowm (wb : Option Nat) : aOwM cn m ca wb cr env = (ca env).bind fun d env => if mthOk cn m d then ((cr env).bind fun as env => .ok (.ow d wb :: as) env) else .err := (rfl)
@[simp] theorem e_make : cMake cn φ cr env = (cr env).bind fun avs env => makeEnd avs env (φ (.obj .m cn [] [] :: avs.map AV.d)) := (rfl)
@[simp] theorem e_make1 (avs : List AV) (self : D) (os : List D) : makeEnd avs env (.ok .non (self :: os)) = if self.nol && nols os then (match putBack avs os env with
    | some env' => .ok self env'
    | none => .err) else .err := (rfl)
@[simp] theorem e_pairs0 : cPairs [] env = .ok [] env := (rfl)
@[simp] theorem e_pairs1 (r : List (CE × CE)) : cPairs ((ca, cb) :: r) env = (ca env).bind fun dk env => (cb env).bind fun dv env => (cPairs r env).bind fun ps env => match dk.key with
    | some ky => .ok ((ky, dv) :: ps) env
    | none => .err := (rfl)
@[simp] theorem e_disp (cps : List (CE × CE)) : cDisp cps env = (cPairs cps env).bind fun ps env => if ps.length ≤ 15 ∧ (ps.map (·.1)).Nodup then .ok (.dct .m (ps.map (·.1)) (ps.map (·.2))) env else if ps.length ≤ 15 ∧ imms (ps.map (·.2)) = true then .ok (.dct .m (mkD ps).1 (mkD ps).2) env else .err := (rfl)
@[simp] theorem e_get1 : cGet1 cd cb env = (cd env).bind fun d env => if isDct d then ((cb env).bind fun y env => R.of (getD2 d y .non) env) else .err := (rfl)
@[simp] theorem e_get2 : cGet2 cd cb cc env = (cd env).bind fun d env => if isDct d then ((cb env).bind fun y env => (cc env).bind fun x env => R.of (getD2 d y x) env) else .err := (rfl)
@[simp] theorem e_setd : lSetd i cl cb cc env = (cl env).bind fun dF env => if isDct dF.1 then ((cb env).bind fun y env => (cc env).bind fun x env => match setdD dF.1 y x with
  | some (some d', z, G) => .ok (z, dF.2 ∘ G) (env.set i (some (dF.2 d')))
  | some (none, z, G) => .ok (z, dF.2 ∘ G) env
  | none => .err) else .err := (rfl)
@[simp] theorem e_gsub (x : D) : gSubD i cl cb x env = match cl env with
  | .ok dF env1 => match cb env1 with
    | .ok y env2 => (stD dF.1 y x).map fun d' => env2.set i (some (dF.2 d'))
    | _ => none
  | _ => none := (rfl)
@[simp] theorem e_strd : iStrD ca env = (ca env).bind fun d env => match d with
  | .str z => .ok (signsD z) env
  | _ => .err := (rfl)
@[simp] theorem e_while (μ : Env → Nat) : sWhile μ ct s1 env = whRun ct s1 (μ env) env := (rfl)
@[simp] theorem e_isd (g : Fl) (ks : List Key) (ds : List D) : isDct (.dct g ks ds) = true := (rfl)
@[simp] theorem e_keyI (i : Int) : (D.int i).key = some (.inl i) := (rfl)
@[simp] theorem e_keyS (s : Str) : (D.str s).key = some (.inr s) := (rfl)
/-! trees -/
@[simp] theorem e_nol7 (ks : List Key) (ds : List D) : (D.dct .m ks ds).nol = nols ds := (rfl)
@[simp] theorem e_nol8 (c : Str) (ns : List Str) (ds : List D) : (D.obj .m c ns ds).nol = nols ds := (rfl)
@[simp] theorem e_nol9 (ds : List D) : (D.lst .f ds).nol = nols ds := (rfl)
@[simp] theorem e_imm7 (g : Fl) (ks : List Key) (ds : List D) : (D.dct g ks ds).imm = ((g == .l || g == .f) && imms ds) := (rfl)
@[simp] theorem e_imm8 (g : Fl) (c : Str) (ns : List Str) (ds : List D) : (D.obj g c ns ds).imm = ((g == .l || g == .f) && imms ds) := (rfl)
@[simp] theorem e_lend8 (ks : List Key) (ds : List D) : (D.dct .m ks ds).lend = .dct .l ks (lends ds) := (rfl)
@[simp] theorem e_lend9 (ks : List Key) (ds : List D) : (D.dct .l ks ds).lend = .dct .l ks (lends ds) := (rfl)
@[simp] theorem e_lend10 (c : Str) (ns : List Str) (ds : List D) : (D.obj .m c ns ds).lend = .obj .l c ns (lends ds) := (rfl)
@[simp] theorem e_lend11 (c : Str) (ns : List Str) (ds : List D) : (D.obj .l c ns ds).lend = .obj .l c ns (lends ds) := (rfl)
@[simp] theorem fl1 : (Fl.m == Fl.l) = false := (rfl)
@[simp] theorem fl2 : (Fl.m == Fl.f) = false := (rfl)
@[simp] theorem fl3 : (Fl.l == Fl.l) = true := (rfl)
@[simp] theorem fl4 : (Fl.l == Fl.f) = false := (rfl)
@[simp] theorem fl5 : (Fl.f == Fl.f) = true := (rfl)
@[simp] theorem fl6 : (Fl.f == Fl.l) = false := (rfl)
/-! numbers -/
@[simp] theorem e_ltG (i j : Int) : pLtG (.int i) (.int j) = some (.bl (decide (i < j))) := (rfl)
@[simp] theorem e_leG (i j : Int) : pLeG (.int i) (.int j) = some (.bl (decide (i ≤ j))) := (rfl)
@[simp] theorem e_gtG (i j : Int) : pGtG (.int i) (.int j) = some (.bl (decide (j < i))) := (rfl)
@[simp] theorem e_geG (i j : Int) : pGeG (.int i) (.int j) = some (.bl (decide (j ≤ i))) := (rfl)
@[simp] theorem e_minG (i j : Int) : pMinG [.int i, .int j] = some (.int (if j < i then j else i)) := (rfl)
@[simp] theorem e_maxG (i j : Int) : pMaxG [.int i, .int j] = some (.int (if i < j then j else i)) := (rfl)
@[simp] theorem e_listG1 (g : Fl) (ds : List D) : pListG [.lst g ds] = if imms ds then some (.lst .m ds) else none := (rfl)
@[simp] theorem e_listG2 (ds : List D) : pListG [.tup ds] = if imms ds then some (.lst .m ds) else none := (rfl)
@[simp] theorem e_listG3 (g : Fl) (ks : List Key) (ds : List D) : pListG [.dct g ks ds] = some (.lst .m (ks.map keyD)) := (rfl)
@[simp] theorem e_dictG1 (g : Fl) (ks : List Key) (ds : List D) : pDictG [.dct g ks ds] = if imms ds then some (.dct .m ks ds) else none := (rfl)
@[simp] theorem e_dictG2 (g : Fl) (ds : List D) : pDictG [.lst g ds] = pDictP [.lst g ds] := (rfl)
@[simp] theorem e_divmod (i j : Int) : pDivmod [.int i, .int j] = if 0 < j ∧ j < 2 ^ 64 then some (.tup [.int (i / j), .int (i % j)]) else none := (rfl)
@[simp] theorem e_len3 (g : Fl) (ks : List Key) (ds : List D) : pLen [.dct g ks ds] = some (.int ks.length) := (rfl)
@[simp] theorem e_len4 (z : Str) : pLen [.str z] = if z.length ≤ sizeLine then some (.int z.length) else none := (rfl)
@[simp] theorem e_ix3 (g : Fl) (ks : List Key) (ds : List D) (y : D) : ixD (.dct g ks ds) y = y.key.bind fun k => lookD ks ds k := by
  cases y <;> rfl
@[simp] theorem e_getd (g : Fl) (ks : List Key) (ds : List D) (y x : D) : getD2 (.dct g ks ds) y x = y.key.map fun k => (lookD ks ds k).getD x := (rfl)
@[simp] theorem e_intat (ks : List Key) (ds : List D) (y : D) : intAt (.dct .m ks ds) y = y.key.bind fun k => match lookD ks ds k with
    | some (.int x) => some x
    | _ => none := (rfl)
/-! lists of alike things -/
@[simp] theorem imms_map {α : Type} {f : α → D} (h : ∀ x, (f x).imm = true) : ∀ xs : List α, imms (xs.map f) = true
  | [] => rfl
  | x :: xs => by simp [h x, imms_map h xs]
@[simp] theorem lends_map {α : Type} {f : α → D} (h : ∀ x, (f x).lend = f x) : ∀ xs : List α, lends (xs.map f) = xs.map f
  | [] => rfl
  | x :: xs => by simp [h x, lends_map h xs]
@[simp] theorem nols_map {α : Type} {f : α → D} (h : ∀ x, (f x).nol = true) : ∀ xs : List α, nols (xs.map f) = true
  | [] => rfl
  | x :: xs => by simp [h x, nols_map h xs]
@[simp] theorem imms_app : ∀ (xs ys : List D), imms (xs ++ ys) = (imms xs && imms ys)
  | [], ys => by simp
  | x :: xs, ys => by simp [imms_app xs ys, Bool.and_assoc]
@[simp] theorem nols_app : ∀ (xs ys : List D), nols (xs ++ ys) = (nols xs && nols ys)
  | [], ys => by simp
  | x :: xs, ys => by simp [nols_app xs ys, Bool.and_assoc]
@[simp] theorem lends_app : ∀ (xs ys : List D), lends (xs ++ ys) = lends xs ++ lends ys
  | [], ys => by simp
  | x :: xs, ys => by simp [lends_app xs ys]
end
/-! ### dicts by a function of their keys -/
section
variable {κ : Type} [DecidableEq κ] (kf : κ → Key) (hk : ∀ a b, kf a = kf b → a = b)
def up1 (g : κ → D) (n : κ) (x : D) : κ → D := fun m => if m = n then x else g m
include hk
theorem lookK_fd : ∀ (ns : List κ) (g : κ → D) (n : κ), lookD (ns.map kf) (ns.map g) (kf n) = if n ∈ ns then some (g n) else none
  | [], g, n => by simp [lookD]
  | m :: ns, g, n => by
    simp only [List.map_cons, lookD]
    by_cases h : m = n
    · subst h; simp
    · rw [if_neg (fun z => h (hk _ _ z)), lookK_fd ns g n]
      have : n ≠ m := fun z => h z.symm
      simp [this]
theorem idxK_fd : ∀ (ns : List κ) (n : κ), idxK (ns.map kf) (kf n) = if n ∈ ns then some (ns.findIdx (· == n)) else none
  | [], n => by simp [idxK]
  | m :: ns, n => by
    simp only [List.map_cons, idxK]
    by_cases h : m = n
    · subst h; simp [List.findIdx_cons]
    · rw [if_neg (fun z => h (hk _ _ z)), idxK_fd ns n]
      have h2 : n ≠ m := fun z => h z.symm
      by_cases h3 : n ∈ ns
      · have hb : (m == n) = false := by simpa using h
        simp [h3, List.findIdx_cons, hb]
      · simp [h3, h2]
omit hk in
theorem set_find : ∀ (ns : List κ) (g : κ → D) (n : κ) (x : D), ns.Nodup → n ∈ ns → (ns.map g).set (ns.findIdx (· == n)) x = ns.map (up1 g n x)
  | [], g, n, x, _, h => by cases h
  | m :: ns, g, n, x, nd, h => by
    have nd' := List.nodup_cons.mp nd
    by_cases e : m = n
    · subst e
      have : ns.map g = ns.map (up1 g m x) := List.map_congr_left fun y hy => by
        have : y ≠ m := fun z => nd'.1 (z ▸ hy)
        simp [up1, this]
      simp [List.findIdx_cons, up1, this]
    · have h2 : n ∈ ns := (List.mem_cons.mp h).resolve_left fun z => e z.symm
      have ih := set_find ns g n x nd'.2 h2
      have hb : (m == n) = false := by simpa using e
      simp [List.findIdx_cons, hb, ih, up1, e]
theorem put_fd {ns : List κ} {g : κ → D} {n : κ} {x : D} (nd : ns.Nodup) (h : n ∈ ns) : putD (ns.map kf) (ns.map g) (kf n) x = .dct .m (ns.map kf) (ns.map (up1 g n x)) := by
  unfold putD
  rw [idxK_fd kf hk, if_pos h]
  simp only
  rw [set_find ns g n x nd h]
end
section
variable {ns : List Str} {g : Str → D} {n : Str} {x : D} {fl : Fl}
theorem inr_inj : ∀ a b : Str, (Sum.inr a : Key) = Sum.inr b → a = b := fun a b h => by cases h; rfl
theorem inl_inj : ∀ a b : Int, (Sum.inl a : Key) = Sum.inl b → a = b := fun a b h => by cases h; rfl
@[simp] theorem look_fd : lookD (ns.map Sum.inr) (ns.map g) (Sum.inr n) = if n ∈ ns then some (g n) else none := lookK_fd Sum.inr inr_inj ns g n
theorem st_fd (nd : ns.Nodup) (h : n ∈ ns) (hl : ns.length < sizeLine) : stD (.dct .m (ns.map Sum.inr) (ns.map g)) (.str n) x = some (.dct .m (ns.map Sum.inr) (ns.map (up1 g n x))) := by
  simp [stD, hl, put_fd Sum.inr inr_inj nd h]
end
end VS

namespace VS
open PySem
/-! ### who hangs together, by how many steps -/
abbrev J := Str × Str × Int
inductive Reach (js : List J) : Str → Str → Int → Prop
  | refl (a : Str) : Reach js a a 0
  | fwd {a b c : Str} {o s : Int} : Reach js a b o → (b, c, s) ∈ js → Reach js a c (o + s)
  | bwd {a b c : Str} {o s : Int} : Reach js a b o → (c, b, s) ∈ js → Reach js a c (o - s)
def Conn (js : List J) (a b : Str) : Prop := ∃ o, Reach js a b o
section
variable {js js' : List J} {a b c : Str} {o o' s : Int}
theorem Reach.trans (h : Reach js a b o) (h' : Reach js b c o') : Reach js a c (o + o') := by
  induction h' with
  | refl => simpa using h
  | fwd r m ih => have := Reach.fwd (ih) m; rwa [Int.add_assoc] at this
  | bwd r m ih => have := Reach.bwd (ih) m; rwa [Int.add_sub_assoc] at this
theorem Reach.symm (h : Reach js a b o) : Reach js b a (-o) := by
  induction h with
  | refl => exact .refl _
  | @fwd b c o s r m ih =>
    have := (Reach.bwd (.refl c) m).trans ih
    have e : (0 : Int) - s + -o = -(o + s) := by omega
    rwa [e] at this
  | @bwd b c o s r m ih =>
    have := (Reach.fwd (.refl c) m).trans ih
    have e : (0 : Int) + s + -o = -(o - s) := by omega
    rwa [e] at this
theorem Reach.mono (h : Reach js a b o) (hm : ∀ j ∈ js, j ∈ js') : Reach js' a b o := by
  induction h with
  | refl => exact .refl _
  | fwd r m ih => exact .fwd ih (hm _ m)
  | bwd r m ih => exact .bwd ih (hm _ m)
theorem Reach.one (m : (a, b, s) ∈ js) : Reach js a b s := by have := Reach.fwd (.refl a) m; simpa using this
theorem Conn.refl (a : Str) : Conn js a a := ⟨0, .refl a⟩
theorem Conn.symm (h : Conn js a b) : Conn js b a := h.elim fun o r => ⟨-o, r.symm⟩
theorem Conn.trans (h : Conn js a b) (h' : Conn js b c) : Conn js a c := h.elim fun o r => h'.elim fun o' r' => ⟨o + o', r.trans r'⟩
theorem Conn.mono (h : Conn js a b) (hm : ∀ j ∈ js, j ∈ js') : Conn js' a b := h.elim fun o r => ⟨o, r.mono hm⟩
/-- one joining more -/
theorem conn_snoc {x y : Str} : Conn (js ++ [(a, b, s)]) x y ↔ Conn js x y ∨ (Conn js x a ∧ Conn js b y) ∨ (Conn js x b ∧ Conn js a y) := by
  constructor
  · rintro ⟨o, r⟩
    induction r with
    | refl => exact .inl (.refl _)
    | @fwd p q o s' r m ih =>
      rcases List.mem_append.mp m with m | m
      · have h1 : Conn js p q := ⟨_, .one m⟩
        rcases ih with h | ⟨h, h'⟩ | ⟨h, h'⟩
        · exact .inl (h.trans h1)
        · exact .inr (.inl ⟨h, h'.trans h1⟩)
        · exact .inr (.inr ⟨h, h'.trans h1⟩)
      · simp at m
        obtain ⟨rfl, rfl, rfl⟩ := m
        rcases ih with h | ⟨h, h'⟩ | ⟨h, h'⟩
        · exact .inr (.inl ⟨h, .refl _⟩)
        · exact .inr (.inl ⟨h, .refl _⟩)
        · exact .inl h
    | @bwd p q o s' r m ih =>
      rcases List.mem_append.mp m with m | m
      · have h1 : Conn js p q := Conn.symm ⟨_, .one m⟩
        rcases ih with h | ⟨h, h'⟩ | ⟨h, h'⟩
        · exact .inl (h.trans h1)
        · exact .inr (.inl ⟨h, h'.trans h1⟩)
        · exact .inr (.inr ⟨h, h'.trans h1⟩)
      · simp at m
        obtain ⟨rfl, rfl, rfl⟩ := m
        rcases ih with h | ⟨h, h'⟩ | ⟨h, h'⟩
        · exact .inr (.inr ⟨h, .refl _⟩)
        · exact .inl h
        · exact .inr (.inr ⟨h, .refl _⟩)
  · have hm : ∀ j ∈ js, j ∈ js ++ [(a, b, s)] := fun j h => List.mem_append_left _ h
    have h1 : Conn (js ++ [(a, b, s)]) a b := ⟨s, .one (by simp)⟩
    rintro (h | ⟨h, h'⟩ | ⟨h, h'⟩)
    · exact h.mono hm
    · exact (h.mono hm).trans (h1.trans (h'.mono hm))
    · exact (h.mono hm).trans (h1.symm.trans (h'.mono hm))
/-- numbers by which all steps come out, counted by t -/
def Pot (t : Int) (js : List J) (p : Str → Int) : Prop := ∀ a b s, (a, b, s) ∈ js → t ∣ p b - p a - s
theorem Pot.reach {t : Int} {p : Str → Int} (hp : Pot t js p) (h : Reach js a b o) : t ∣ p b - p a - o := by
  induction h with
  | refl => simp
  | @fwd b c o s r m ih =>
    have h1 := hp _ _ _ m
    have e : p c - p a - (o + s) = (p c - p b - s) + (p b - p a - o) := by omega
    rw [e]; exact Int.dvd_add h1 ih
  | @bwd b c o s r m ih =>
    have h1 := hp _ _ _ m
    have e : p c - p a - (o - s) = (p b - p a - o) - (p b - p c - s) := by omega
    rw [e]; exact Int.dvd_sub ih h1
def cnt (t n : Int) : Int := if t = 0 then n else n % t
theorem cnt_eq {t m n : Int} : cnt t m = cnt t n ↔ t ∣ m - n := by
  unfold cnt
  by_cases h : t = 0
  · subst h; simp only [if_pos]; rw [Int.zero_dvd]; omega
  · simp only [if_neg h]; rw [Int.emod_eq_emod_iff_emod_sub_eq_zero, Int.dvd_iff_emod_eq_zero]
/-- a joining stays within the names -/
def Within (ns : List Str) (js : List J) : Prop := ∀ a b s, (a, b, s) ∈ js → a ∈ ns ∧ b ∈ ns
theorem Reach.mem {ns : List Str} (w : Within ns js) (h : Reach js a b o) (ha : a ∈ ns) : b ∈ ns := by
  induction h with
  | refl => exact ha
  | fwd r m ih => exact (w _ _ _ m).2
  | bwd r m ih => exact (w _ _ _ m).1
theorem Conn.mem {ns : List Str} (w : Within ns js) (h : Conn js a b) (ha : a ∈ ns) : b ∈ ns := h.elim fun _ r => r.mem w ha
end
end VS

set_option maxRecDepth 100000
namespace VS
open PySem L2 SeqAt PySem.Spec PyProof.Rows
/-! ### slices, items -/
theorem cut_take {ds : List D} {n : Int} (h : 0 ≤ n) : cutD ds none (some n) = ds.take n.toNat := by
  obtain ⟨k, rfl⟩ := Int.eq_ofNat_of_zero_le h
  unfold cutD
  rw [HT.sIx_none, HT.sIx_nat]
  simp only [Int.toNat_natCast, List.drop_zero, Nat.sub_zero]
  by_cases hl : k ≤ ds.length
  · rw [Nat.min_eq_left hl]
  · rw [Nat.min_eq_right (by omega), List.take_of_length_le (Nat.le_refl _), List.take_of_length_le (by omega)]
theorem cut_drop {ds : List D} {n : Int} (h : 0 ≤ n) : cutD ds (some n) none = ds.drop n.toNat := by
  obtain ⟨k, rfl⟩ := Int.eq_ofNat_of_zero_le h
  unfold cutD
  rw [HT.sIx_none, HT.sIx_nat]
  simp only [Int.toNat_natCast]
  by_cases hl : k ≤ ds.length
  · rw [Nat.min_eq_left hl, List.take_of_length_le (by simp)]
  · rw [Nat.min_eq_right (by omega), List.drop_of_length_le (Nat.le_refl _), List.drop_of_length_le (by omega)]; simp
theorem atI_map {α : Type} {f : α → D} {xs : List α} {r : Int} (h0 : 0 ≤ r) (h1 : r < xs.length) : ∃ (x : α), x ∈ xs ∧ xs[r.toNat]? = some x ∧ atI (xs.map f) r = some (f x) := by
  have hn : r.toNat < xs.length := by omega
  have e : r = ((r.toNat : Nat) : Int) := by omega
  have e2 := atI_nat (xs := xs.map f) (k := r.toNat) (by simpa using hn)
  rw [← e] at e2
  exact ⟨xs[r.toNat], List.getElem_mem hn, by simp [hn], by rw [e2]; simp [hn]⟩
theorem atI_last' {α : Type} (xs : List α) (x : α) : atI (xs ++ [x]) (-1) = some x := by
  unfold atI ixN
  rw [if_neg (by omega), if_pos (by simp; omega)]
  have e : (-1 + ((xs.length : Int) + 1)).toNat = xs.length := by omega
  simp [e]
/-! ### dicts made of pairs -/
theorem putP_new {ks : List Key} {ds : List D} {k : Key} {x : D} (h : k ∉ ks) : putP (ks, ds) k x = (ks ++ [k], ds ++ [x]) := by
  unfold putP
  have : idxK ks k = none := by
    cases q : idxK ks k with
    | none => rfl
    | some j => exact absurd (List.mem_of_getElem? (idx_at q)) h
  simp [this]
theorem mkD_nd : ∀ (ps : List (Key × D)) (kd : List Key × List D), (kd.1 ++ ps.map (·.1)).Nodup → ps.foldl (fun acc p => putP acc p.1 p.2) kd = (kd.1 ++ ps.map (·.1), kd.2 ++ ps.map (·.2))
  | [], kd, _ => by simp
  | p :: ps, kd, h => by
    have hp : p.1 ∉ kd.1 := fun z => (List.nodup_append.mp h).2.2 p.1 z p.1 (by simp) rfl
    have e := putP_new (ds := kd.2) (x := p.2) hp
    have e' : putP kd p.1 p.2 = (kd.1 ++ [p.1], kd.2 ++ [p.2]) := e
    rw [List.foldl_cons, e', mkD_nd ps _ (by simpa using h)]
    simp
theorem dict_fd {ns : List Str} {g : Str → D} {fl : Fl} (nd : ns.Nodup) (hi : ∀ n ∈ ns, (g n).imm = true) : pDictP [.lst fl (ns.map fun n => .tup [.str n, g n])] = some (.dct .m (ns.map Sum.inr) (ns.map g)) := by
  have h1 : imms (ns.map fun n => D.tup [.str n, g n]) = true := by
    rw [imms_all, List.all_eq_true]
    intro d hd
    obtain ⟨n, hn, rfl⟩ := List.mem_map.mp hd
    simp [hi n hn]
  have h2 : ∀ ns : List Str, pairsD (ns.map fun n => D.tup [.str n, g n]) = some (ns.map fun n => (Sum.inr n, g n)) := fun ns => by
    induction ns with
    | nil => rfl
    | cons n ns ih => simp [pairsD, ih]
  have h3 : ((ns.map fun n => ((Sum.inr n : Key), g n)).map (·.1)).Nodup := by
    rw [List.map_map]
    exact List.Pairwise.map _ (fun a b h e => h (inr_inj _ _ e)) nd
  unfold pDictP
  simp only [h1, if_true, h2, Option.map_some]
  have := mkD_nd (ns.map fun n => ((Sum.inr n : Key), g n)) ([], []) (by simpa using h3)
  have e : mkD (ns.map fun n => ((Sum.inr n : Key), g n)) = (ns.map Sum.inr, ns.map g) := by
    unfold mkD; rw [this]; simp [List.map_map, Function.comp_def]
  rw [e]
/-! ### sorted names -/
theorem pyO_str (s : Str) : pyO (.str s) = .str s := rfl
theorem pys_strs : ∀ ns : List Str, pys (ns.map D.str) = some (ns.map PyData.str)
  | [] => rfl
  | n :: ns => by simp [pys, D.py, pys_strs ns]
theorem sortOk_strs {ns : List Str} (h : ns.length ≤ 1000) : sortOk (ns.map D.str) = true := by
  unfold sortOk
  simp only [Bool.and_eq_true]
  refine ⟨⟨⟨⟨⟨by rw [pys_strs]; rfl, by simp⟩, ?_⟩, ?_⟩, ?_⟩, by simpa using sz_ok h⟩
  · simp [alikeB, pyO_str, PySem.W.alike]
  · simp [sortableB, pyO_str]
  · simp [shallowB, pyO_str, PyData.depth]
/-- texts in their order -/
def leS (a b : Str) : Bool := leD (.str a) (.str b)
def sortS (ns : List Str) : List Str := ns.mergeSort leS
theorem sortS_perm (ns : List Str) : (sortS ns).Perm ns := List.mergeSort_perm _ _
theorem sortG_strs {g : Fl} {ns : List Str} (h : ns.length ≤ 1000) : pSortedG [.lst g (ns.map D.str)] = some (.lst .m ((sortS ns).map D.str)) := by
  unfold pSortedG
  simp only [collD, Option.bind_some, sortOk_strs h, if_true]
  unfold sortS
  rw [List.map_mergeSort (f := D.str) (r := leS) (s := leD) fun a _ b _ => rfl]
theorem sortG_tups {ns : List Str} (h : ns.length ≤ 1000) : pSortedG [.tup (ns.map D.str)] = some (.lst .m ((sortS ns).map D.str)) := by
  unfold pSortedG
  simp only [collD, Option.bind_some, sortOk_strs h, if_true]
  unfold sortS
  rw [List.map_mergeSort (f := D.str) (r := leS) (s := leD) fun a _ b _ => rfl]
/-! ### whiles -/
theorem wh_true {ct : CT} {body : CS} {n : Nat} {env env1 env2 : Env} (h1 : ct env = .ok true env1) (h2 : body env1 = .nx env2) : whRun ct body (n + 1) env = whRun ct body n env2 := by simp [whRun, h1, h2]
theorem wh_false {ct : CT} {body : CS} {n : Nat} {env env1 : Env} (h1 : ct env = .ok false env1) : whRun ct body (n + 1) env = .nx env1 := by simp [whRun, h1]
theorem wh_rt {ct : CT} {body : CS} {n : Nat} {env env1 env2 : Env} {d : D} (h1 : ct env = .ok true env1) (h2 : body env1 = .rt d env2) : whRun ct body (n + 1) env = .rt d env2 := by simp [whRun, h1, h2]
/-- a loop over alike items, by a fold -/
theorem for_fold {α S : Type} {f : α → D} {E : S → Env} {step : S → α → S} {g : D → Env → Option Env} {body : CS} : ∀ {xs : List α} {s : S} (P : List α → S → Prop), P xs s → (∀ x xs s, P (x :: xs) s → P xs (step s x) ∧ ∃ env1, g (f x) (E s) = some env1 ∧ body env1 = .nx (E (step s x))) →
    forRun g body (xs.map f) (E s) = .nx (E (xs.foldl step s)) ∧ P [] (xs.foldl step s)
  | [], s, P, h0, _ => ⟨rfl, h0⟩
  | x :: xs, s, P, h0, h => by
    obtain ⟨h1, env1, h2, h3⟩ := h x xs s h0
    obtain ⟨k1, k2⟩ := for_fold (xs := xs) P h1 h
    exact ⟨by rw [List.map_cons, for_nx h2 h3]; exact k1, k2⟩
end VS

set_option maxRecDepth 100000
namespace VS
open PySem L2 SeqAt PySem.Spec PyProof.Rows
theorem sz_lt {n : Nat} (h : n ≤ 1000000) : n < sizeLine :=
  have e : sizeLine = 16777216 := by decide +kernel
  by omega
theorem sz_le {n : Nat} (h : n ≤ 1000000) : n ≤ sizeLine := Nat.le_of_lt (sz_lt h)
theorem for_inv {α : Type} {f : α → D} {g : D → Env → Option Env} {body : CS} (P : List α → Env → Prop) (h : ∀ x xs env, P (x :: xs) env → ∃ env1 env2, g (f x) env = some env1 ∧ body env1 = .nx env2 ∧ P xs env2) : ∀ (xs : List α) (env : Env), P xs env → ∃ env', forRun g body (xs.map f) env = .nx env' ∧ P [] env'
  | [], env, h0 => ⟨env, rfl, h0⟩
  | x :: xs, env, h0 => by
    obtain ⟨env1, env2, h1, h2, h3⟩ := h x xs env h0
    obtain ⟨env', k1, k2⟩ := for_inv P h xs env2 h3
    exact ⟨env', by rw [List.map_cons, for_nx h1 h2]; exact k1, k2⟩
theorem wh_inv {ct : CT} {body : CS} (P : Nat → Env → Prop) (Q : Env → Prop) (h : ∀ k env, P k env → (∃ env1, ct env = .ok false env1 ∧ Q env1) ∨ (∃ k' env1 env2, k = k' + 1 ∧ ct env = .ok true env1 ∧ body env1 = .nx env2 ∧ P k' env2)) : ∀ (k n : Nat) (env : Env), k < n → P k env → ∃ env', whRun ct body n env = .nx env' ∧ Q env'
  | k, 0, env, hn, _ => absurd hn (by omega)
  | k, n + 1, env, hn, h0 => by
    rcases h k env h0 with ⟨env1, h1, h2⟩ | ⟨k', env1, env2, rfl, h1, h2, h3⟩
    · exact ⟨env1, wh_false h1, h2⟩
    · obtain ⟨env', k1, k2⟩ := wh_inv P Q h k' n env2 (by omega) h3
      exact ⟨env', by rw [wh_true h1 h2]; exact k1, k2⟩
section
variable {κ : Type} [DecidableEq κ] (kf : κ → Key) (hk : ∀ a b, kf a = kf b → a = b)
include hk
theorem put_new {ns : List κ} {g : κ → D} {n : κ} {x : D} (h : n ∉ ns) : putD (ns.map kf) (ns.map g) (kf n) x = .dct .m ((ns ++ [n]).map kf) ((ns ++ [n]).map (up1 g n x)) := by
  unfold putD
  rw [idxK_fd kf hk, if_neg h]
  simp only [List.map_append, List.map_cons, List.map_nil]
  have e : ns.map (up1 g n x) = ns.map g := List.map_congr_left fun y hy => by
    have : y ≠ n := fun z => h (z ▸ hy)
    simp [up1, this]
  rw [e]; simp [up1]
end
theorem st_new {ns : List Str} {g : Str → D} {n : Str} {x : D} (h : n ∉ ns) (hl : ns.length < sizeLine) : stD (.dct .m (ns.map Sum.inr) (ns.map g)) (.str n) x = some (.dct .m ((ns ++ [n]).map Sum.inr) ((ns ++ [n]).map (up1 g n x))) := by
  have := put_new Sum.inr inr_inj (g := g) (x := x) h
  simp only [stD, e_keyS, Option.bind_some, List.length_map, hl, if_true, Option.map_some, this]
/-! ### what kind a thing is (printed) -/
@[simp] theorem isi_non_bool : pIsi [.non, .ty "bool"] = some (.bl false) := (rfl)
@[simp] theorem isi_non_int : pIsi [.non, .ty "int"] = some (.bl false) := (rfl)
@[simp] theorem isi_non_str : pIsi [.non, .ty "str"] = some (.bl false) := (rfl)
@[simp] theorem isi_non_list : pIsi [.non, .ty "list"] = some (.bl false) := (rfl)
@[simp] theorem isi_non_tuple : pIsi [.non, .ty "tuple"] = some (.bl false) := (rfl)
@[simp] theorem isi_non_dict : pIsi [.non, .ty "dict"] = some (.bl false) := (rfl)
@[simp] theorem isi_non_list_tuple : pIsi [.non, .tup [.ty "list", .ty "tuple"]] = some (.bl false) := (rfl)
@[simp] theorem isi_non_tuple_list : pIsi [.non, .tup [.ty "tuple", .ty "list"]] = some (.bl false) := (rfl)
@[simp] theorem isi_non_int_str : pIsi [.non, .tup [.ty "int", .ty "str"]] = some (.bl false) := (rfl)
@[simp] theorem isi_non_list_dict : pIsi [.non, .tup [.ty "list", .ty "dict"]] = some (.bl false) := (rfl)
@[simp] theorem is_bl (b : Bool) : pIs (.bl b) .non = some (.bl false) := (rfl)
@[simp] theorem isn_bl (b : Bool) : pIsNot (.bl b) .non = some (.bl true) := (rfl)
@[simp] theorem isi_bl_bool (b : Bool) : pIsi [(.bl b), .ty "bool"] = some (.bl true) := (rfl)
@[simp] theorem isi_bl_int (b : Bool) : pIsi [(.bl b), .ty "int"] = some (.bl true) := (rfl)
@[simp] theorem isi_bl_str (b : Bool) : pIsi [(.bl b), .ty "str"] = some (.bl false) := (rfl)
@[simp] theorem isi_bl_list (b : Bool) : pIsi [(.bl b), .ty "list"] = some (.bl false) := (rfl)
@[simp] theorem isi_bl_tuple (b : Bool) : pIsi [(.bl b), .ty "tuple"] = some (.bl false) := (rfl)
@[simp] theorem isi_bl_dict (b : Bool) : pIsi [(.bl b), .ty "dict"] = some (.bl false) := (rfl)
@[simp] theorem isi_bl_list_tuple (b : Bool) : pIsi [(.bl b), .tup [.ty "list", .ty "tuple"]] = some (.bl false) := (rfl)
@[simp] theorem isi_bl_tuple_list (b : Bool) : pIsi [(.bl b), .tup [.ty "tuple", .ty "list"]] = some (.bl false) := (rfl)
@[simp] theorem isi_bl_int_str (b : Bool) : pIsi [(.bl b), .tup [.ty "int", .ty "str"]] = some (.bl true) := (rfl)
@[simp] theorem isi_bl_list_dict (b : Bool) : pIsi [(.bl b), .tup [.ty "list", .ty "dict"]] = some (.bl false) := (rfl)
@[simp] theorem is_int (i : Int) : pIs (.int i) .non = some (.bl false) := (rfl)
@[simp] theorem isn_int (i : Int) : pIsNot (.int i) .non = some (.bl true) := (rfl)
@[simp] theorem isi_int_bool (i : Int) : pIsi [(.int i), .ty "bool"] = some (.bl false) := (rfl)
@[simp] theorem isi_int_int (i : Int) : pIsi [(.int i), .ty "int"] = some (.bl true) := (rfl)
@[simp] theorem isi_int_str (i : Int) : pIsi [(.int i), .ty "str"] = some (.bl false) := (rfl)
@[simp] theorem isi_int_list (i : Int) : pIsi [(.int i), .ty "list"] = some (.bl false) := (rfl)
@[simp] theorem isi_int_tuple (i : Int) : pIsi [(.int i), .ty "tuple"] = some (.bl false) := (rfl)
@[simp] theorem isi_int_dict (i : Int) : pIsi [(.int i), .ty "dict"] = some (.bl false) := (rfl)
@[simp] theorem isi_int_list_tuple (i : Int) : pIsi [(.int i), .tup [.ty "list", .ty "tuple"]] = some (.bl false) := (rfl)
@[simp] theorem isi_int_tuple_list (i : Int) : pIsi [(.int i), .tup [.ty "tuple", .ty "list"]] = some (.bl false) := (rfl)
@[simp] theorem isi_int_int_str (i : Int) : pIsi [(.int i), .tup [.ty "int", .ty "str"]] = some (.bl true) := (rfl)
@[simp] theorem isi_int_list_dict (i : Int) : pIsi [(.int i), .tup [.ty "list", .ty "dict"]] = some (.bl false) := (rfl)
@[simp] theorem is_str (s : Str) : pIs (.str s) .non = some (.bl false) := (rfl)
@[simp] theorem isn_str (s : Str) : pIsNot (.str s) .non = some (.bl true) := (rfl)
@[simp] theorem isi_str_bool (s : Str) : pIsi [(.str s), .ty "bool"] = some (.bl false) := (rfl)
@[simp] theorem isi_str_int (s : Str) : pIsi [(.str s), .ty "int"] = some (.bl false) := (rfl)
@[simp] theorem isi_str_str (s : Str) : pIsi [(.str s), .ty "str"] = some (.bl true) := (rfl)
@[simp] theorem isi_str_list (s : Str) : pIsi [(.str s), .ty "list"] = some (.bl false) := (rfl)
@[simp] theorem isi_str_tuple (s : Str) : pIsi [(.str s), .ty "tuple"] = some (.bl false) := (rfl)
@[simp] theorem isi_str_dict (s : Str) : pIsi [(.str s), .ty "dict"] = some (.bl false) := (rfl)
@[simp] theorem isi_str_list_tuple (s : Str) : pIsi [(.str s), .tup [.ty "list", .ty "tuple"]] = some (.bl false) := (rfl)
@[simp] theorem isi_str_tuple_list (s : Str) : pIsi [(.str s), .tup [.ty "tuple", .ty "list"]] = some (.bl false) := (rfl)
@[simp] theorem isi_str_int_str (s : Str) : pIsi [(.str s), .tup [.ty "int", .ty "str"]] = some (.bl true) := (rfl)
@[simp] theorem isi_str_list_dict (s : Str) : pIsi [(.str s), .tup [.ty "list", .ty "dict"]] = some (.bl false) := (rfl)
@[simp] theorem is_tup (ds : List D) : pIs (.tup ds) .non = some (.bl false) := (rfl)
@[simp] theorem isn_tup (ds : List D) : pIsNot (.tup ds) .non = some (.bl true) := (rfl)
@[simp] theorem isi_tup_bool (ds : List D) : pIsi [(.tup ds), .ty "bool"] = some (.bl false) := (rfl)
@[simp] theorem isi_tup_int (ds : List D) : pIsi [(.tup ds), .ty "int"] = some (.bl false) := (rfl)
@[simp] theorem isi_tup_str (ds : List D) : pIsi [(.tup ds), .ty "str"] = some (.bl false) := (rfl)
@[simp] theorem isi_tup_list (ds : List D) : pIsi [(.tup ds), .ty "list"] = some (.bl false) := (rfl)
@[simp] theorem isi_tup_tuple (ds : List D) : pIsi [(.tup ds), .ty "tuple"] = some (.bl true) := (rfl)
@[simp] theorem isi_tup_dict (ds : List D) : pIsi [(.tup ds), .ty "dict"] = some (.bl false) := (rfl)
@[simp] theorem isi_tup_list_tuple (ds : List D) : pIsi [(.tup ds), .tup [.ty "list", .ty "tuple"]] = some (.bl true) := (rfl)
@[simp] theorem isi_tup_tuple_list (ds : List D) : pIsi [(.tup ds), .tup [.ty "tuple", .ty "list"]] = some (.bl true) := (rfl)
@[simp] theorem isi_tup_int_str (ds : List D) : pIsi [(.tup ds), .tup [.ty "int", .ty "str"]] = some (.bl false) := (rfl)
@[simp] theorem isi_tup_list_dict (ds : List D) : pIsi [(.tup ds), .tup [.ty "list", .ty "dict"]] = some (.bl false) := (rfl)
@[simp] theorem is_lst (g : Fl) (ds : List D) : pIs (.lst g ds) .non = some (.bl false) := (rfl)
@[simp] theorem isn_lst (g : Fl) (ds : List D) : pIsNot (.lst g ds) .non = some (.bl true) := (rfl)
@[simp] theorem isi_lst_bool (g : Fl) (ds : List D) : pIsi [(.lst g ds), .ty "bool"] = some (.bl false) := (rfl)
@[simp] theorem isi_lst_int (g : Fl) (ds : List D) : pIsi [(.lst g ds), .ty "int"] = some (.bl false) := (rfl)
@[simp] theorem isi_lst_str (g : Fl) (ds : List D) : pIsi [(.lst g ds), .ty "str"] = some (.bl false) := (rfl)
@[simp] theorem isi_lst_list (g : Fl) (ds : List D) : pIsi [(.lst g ds), .ty "list"] = some (.bl true) := (rfl)
@[simp] theorem isi_lst_tuple (g : Fl) (ds : List D) : pIsi [(.lst g ds), .ty "tuple"] = some (.bl false) := (rfl)
@[simp] theorem isi_lst_dict (g : Fl) (ds : List D) : pIsi [(.lst g ds), .ty "dict"] = some (.bl false) := (rfl)
@[simp] theorem isi_lst_list_tuple (g : Fl) (ds : List D) : pIsi [(.lst g ds), .tup [.ty "list", .ty "tuple"]] = some (.bl true) := (rfl)
@[simp] theorem isi_lst_tuple_list (g : Fl) (ds : List D) : pIsi [(.lst g ds), .tup [.ty "tuple", .ty "list"]] = some (.bl true) := (rfl)
@[simp] theorem isi_lst_int_str (g : Fl) (ds : List D) : pIsi [(.lst g ds), .tup [.ty "int", .ty "str"]] = some (.bl false) := (rfl)
@[simp] theorem isi_lst_list_dict (g : Fl) (ds : List D) : pIsi [(.lst g ds), .tup [.ty "list", .ty "dict"]] = some (.bl true) := (rfl)
@[simp] theorem is_dct (g : Fl) (ks : List Key) (ds : List D) : pIs (.dct g ks ds) .non = some (.bl false) := (rfl)
@[simp] theorem isn_dct (g : Fl) (ks : List Key) (ds : List D) : pIsNot (.dct g ks ds) .non = some (.bl true) := (rfl)
@[simp] theorem isi_dct_bool (g : Fl) (ks : List Key) (ds : List D) : pIsi [(.dct g ks ds), .ty "bool"] = some (.bl false) := (rfl)
@[simp] theorem isi_dct_int (g : Fl) (ks : List Key) (ds : List D) : pIsi [(.dct g ks ds), .ty "int"] = some (.bl false) := (rfl)
@[simp] theorem isi_dct_str (g : Fl) (ks : List Key) (ds : List D) : pIsi [(.dct g ks ds), .ty "str"] = some (.bl false) := (rfl)
@[simp] theorem isi_dct_list (g : Fl) (ks : List Key) (ds : List D) : pIsi [(.dct g ks ds), .ty "list"] = some (.bl false) := (rfl)
@[simp] theorem isi_dct_tuple (g : Fl) (ks : List Key) (ds : List D) : pIsi [(.dct g ks ds), .ty "tuple"] = some (.bl false) := (rfl)
@[simp] theorem isi_dct_dict (g : Fl) (ks : List Key) (ds : List D) : pIsi [(.dct g ks ds), .ty "dict"] = some (.bl true) := (rfl)
@[simp] theorem isi_dct_list_tuple (g : Fl) (ks : List Key) (ds : List D) : pIsi [(.dct g ks ds), .tup [.ty "list", .ty "tuple"]] = some (.bl false) := (rfl)
@[simp] theorem isi_dct_tuple_list (g : Fl) (ks : List Key) (ds : List D) : pIsi [(.dct g ks ds), .tup [.ty "tuple", .ty "list"]] = some (.bl false) := (rfl)
@[simp] theorem isi_dct_int_str (g : Fl) (ks : List Key) (ds : List D) : pIsi [(.dct g ks ds), .tup [.ty "int", .ty "str"]] = some (.bl false) := (rfl)
@[simp] theorem isi_dct_list_dict (g : Fl) (ks : List Key) (ds : List D) : pIsi [(.dct g ks ds), .tup [.ty "list", .ty "dict"]] = some (.bl true) := (rfl)
@[simp] theorem is_bb (a b : Bool) : pIs (.bl a) (.bl b) = some (.bl (decide (a = b))) := (rfl)
@[simp] theorem isn_bb (a b : Bool) : pIsNot (.bl a) (.bl b) = some (.bl (!decide (a = b))) := (rfl)
theorem has_fd {κ : Type} (kf : κ → Key) (hk : ∀ a b, kf a = kf b → a = b) {ns : List κ} {n : κ} : kf n ∈ ns.map kf ↔ n ∈ ns := by
  simp only [List.mem_map]
  constructor
  · rintro ⟨m, hm, e⟩; exact hk _ _ e ▸ hm
  · intro h; exact ⟨n, h, rfl⟩
end VS

set_option maxRecDepth 100000
set_option maxHeartbeats 6400000
namespace VS
open PySem L2 SeqAt PySem.Spec PyProof.Rows
/-! ### set(xs) of a list or a tuple: len, sorted -/
abbrev set0 (w : World) : Obj := { cls := .type "set", dict := none, data := .set #[] 0 (.fresh 0 0 (!w.params.followText "set-order")) }
/-- what a set holds behind each turn of its making -/
structure SetRun (P : Program) (w : World) (n : Nat) (Vl : Nat → Value → Prop) (Sp : Nat → Heap → Addr → Prop) : Prop where
  start : ∀ {h : Heap} {a : Addr}, h.get? a = some (set0 w) → Sp 0 h a
  keep : ∀ {i : Nat} {h h' : Heap} {a : Addr}, Sp i h a → (∀ o, h.get? a = some o → h'.get? a = some o) → Sp i h' a
  add : ∀ {i : Nat} {a : Addr} {v : Value} {A : Around} {E : Value → Shared → Prop} {s : Shared} {Q : Bool → Shared → Prop}, i < n → Sp i s.heap a → Vl i v →
    (∀ (b : Bool) (h' : Heap) (tk : Nat), Heap.SameBut a s.heap h' → s.toks ≤ tk → Sp (i + 1) h' a → Q b { s with heap := h', toks := tk }) → wpAny (model P w) A (setAdd a v) Q E s
section
variable {P : Program} {w : World} {A : Around} {E : Value → Shared → Prop} {s : Shared}
theorem SetRun.loop {Sp : Nat → Heap → Addr → Prop} {Vl Pv : Nat → Value → Prop} {I S : Addr} {fp wr : List Addr} {g : Array GenState → Array GenState → Prop} {n : Nat} {St : Nat → Shared → Prop} {R : Result → Shared → Prop} (G : SetRun P w n Vl Sp)
    (Wk : WalksS P w A.in1 I fp wr g n Pv St) (nS : S ∉ fp) (hv : ∀ i v, Pv i v → Vl i v) :
    ∀ (k i : Nat) (t : Shared), n - i = k → i ≤ n → St i t → Sp i t.heap S → (∀ t', Moved (S :: wr) g t t' → Sp n t'.heap S → R (.ok (.ret .none)) t') → codeAny (model P w) A (.builtin "set.update.loop" ⟨[.ref S, .ref I], []⟩) R t := by
  have nW : S ∉ wr := fun h => nS (Wk.sub _ h)
  have up : ∀ b ∈ wr, b ∈ S :: wr := fun b hb => List.mem_cons_of_mem _ hb
  intro k
  induction k with
  | zero =>
    intro i t hk hi hst sp fin
    obtain rfl : i = n := by omega
    refine codeAny_builtin F.entry_set_update_loop ?_
    rw [Around.under_plainId F.plain_set_update_loop _]
    refine (show wpAny _ A.in1 (pyNext (.ref I) >>= _) _ _ t from wpAny_bind (Wk.done t _ _ hst fun t' hm => ?_))
    exact (show wpAny _ A.in1 (ret Value.none) _ _ t' from wpAny_pure (fin t' (hm.mono up) (G.keep sp fun o e => hm.heap S o nW e)))
  | succ k ih =>
    intro i t hk hi hst sp fin
    have lt : i < n := by omega
    refine codeAny_builtin F.entry_set_update_loop ?_
    rw [Around.under_plainId F.plain_set_update_loop _]
    refine (show wpAny _ A.in1 (pyNext (.ref I) >>= _) _ _ t from wpAny_bind (Wk.item i t _ _ lt hst fun v t' hP hst' hm => ?_))
    refine (show wpAny _ A.in1 (holding [v] (setAdd S v) >>= _) _ _ t' from wpAny_bind (wpAny_holding ?_))
    refine G.add lt (G.keep sp fun o e => hm.heap S o nW e) (hv i v hP) fun b h' tk sb htk sp' => ?_
    refine wpAny_pure ⟨plainId_quiet F.plain_set_update_loop _, ih (i + 1) _ (by omega) lt (Wk.frame _ t' _ _ hst' htk fun b hb o e => ?_) sp' fun t2 hm2 sp2 => fin t2 (Moved.trans Wk.gtrans ((hm.mono up).then_heap htk fun b o hb e => ?_) hm2) sp2⟩
    · rw [sb.2 b (fun z : b = S => nS (z ▸ hb))]; exact e
    · rw [sb.2 b (fun z : b = S => hb (by rw [z]; exact List.mem_cons_self))]; exact e
theorem call_set_lst {Sp : Nat → Heap → Addr → Prop} {Vl : Nat → Value → Prop} {l : Addr} {its : Array Value} {Q : Value → Shared → Prop} (G : SetRun P w its.size Vl Sp) (nh : A.handled = none) (hl : s.heap.IsList l its) (hv : ∀ i v, its[i]? = some v → Vl i v)
    (done : ∀ (h' : Heap) (tk : Nat), Sp its.size h' s.heap.objs.size → (∀ b o, s.heap.get? b = some o → h'.get? b = some o) → Q (.ref s.heap.objs.size) { s with heap := h', toks := tk }) :
    wpAny (model P w) A (call (.type "set") [.ref l]) Q E s := by
  obtain ⟨_, _, facts_mro⟩ := F.called_set.mro
  have facts_made := F.called_set.made
  have facts_sub := F.called_set.sub
  refine wpAny_call (codeAny_of_tree (show wpAny _ _ (callAny (.type "set") _) _ _ _ from ?_))
  refine wpAny_pure ⟨Code.quiet_builtin _ (by decide +kernel), codeAny_builtin F.entry_type_call ?_⟩
  rw [Around.under_plain (weight_type_call_type "set" [.ref l] []) rfl]
  have facts_nt := F.called_set.notType
  have facts_cc := F.called_set.canCreate
  have facts_tc := F.typeCall_set_1 (.ref l)
  repeat (any_goals (first | assumption | wp_step))
  refine codeAny_mono (L2.code_set_led1 (.ref l) (E := E) (Q₁ := fun ob t1 => ob = .ref s.heap.objs.size ∧ t1 = { s with heap := s.heap.push (set0 w) }) ⟨rfl, rfl⟩) fun out t1 hr => ?_
  rcases out with e | fl
  · exact hr
  cases fl with
  | ret ob =>
    obtain ⟨rfl, rfl⟩ := hr
    have at0 : (s.heap.push (set0 w)).get? s.heap.objs.size = some (set0 w) := Heap.get?_push_size _ rfl
    have ty0 : Shared.TypeIs { s with heap := s.heap.push (set0 w) } (.ref s.heap.objs.size) "set" := ⟨_, at0, rfl⟩
    have facts_il := F.called_set.init.lookup
    have facts_ib := F.called_set.init.bind (.ref s.heap.objs.size)
    repeat (any_goals (first | assumption | wp_step))
    refine codeAny_mono (codeAny_call_builtin (R := wants (fun r t2 => r = .none ∧ ∃ h' tk, t2 = { s with heap := h', toks := tk } ∧ Sp its.size h' s.heap.objs.size ∧ (∀ b o, s.heap.get? b = some o → h'.get? b = some o)) E)
      F.called_set.init.plain F.entry_set_init (check_set_init_1 ty0 ?_)) fun out2 t2 hr2 => ?_
    · obtain ⟨ol, hol, hcl, nl, hdl⟩ := hl
      obtain ⟨oc, od, odt, osl⟩ := ol
      simp only at hcl hdl
      subst hcl hdl
      have hol' : (s.heap.push (set0 w)).get? l = some { cls := .type "list", dict := od, data := .seq its nl, slots := osl } := Heap.get?_push_of_some _ hol
      have facts_s1 := F.sub_list_set
      have facts_s2 := F.sub_list_frozenset
      have facts_ne : (Value.type "list" == Value.type "dict") = false := by decide
      have hl1 : (s.heap.push (set0 w)).IsList l its := ⟨_, hol', rfl, nl, rfl⟩
      unfold Builtin.«set.__init__» noKeywords Builtin.Frozenset.updateFrom
      generalize hIT : pyIter = IT
      wp_walk
      subst hIT
      refine wpAny_pyIter_list hl1 (wpAny_bind (wpAny_runValue ?_))
      have lt : l < s.heap.objs.size := Heap.lt_size hol
      have sz : (s.heap.push (set0 w)).objs.size = s.heap.objs.size + 1 := Heap.size_push ..
      have nI : l ≠ (s.heap.push (set0 w)).objs.size := by rw [Heap.size_push]; exact Nat.ne_of_lt (Nat.lt_succ_of_lt lt)
      have nS : s.heap.objs.size ∉ [(s.heap.push (set0 w)).objs.size, l] := by
        rw [Heap.size_push]; simp only [List.mem_cons, List.not_mem_nil, or_false, not_or]
        exact ⟨Nat.ne_of_lt (Nat.lt_succ_self _), Nat.ne_of_gt lt⟩
      refine G.loop ((Walks.list (by simp [nh]) _ l nI its).toS) nS hv (its.size - 0) 0 _ (by omega) (Nat.zero_le _) ⟨⟨_, Heap.get?_push_size _ rfl, rfl, rfl⟩, hl1.push _⟩ (G.start (Heap.get?_push_of_some _ at0)) fun t3 hm st => ?_
      obtain ⟨h3, g3, d3, tk3, os3⟩ := t3
      obtain rfl : g3 = s.gens := hm.gens
      obtain rfl : d3 = s.drawn := hm.drawn
      obtain rfl : os3 = s.os := hm.os
      show wpAny _ _ _ _ _ _
      refine wpAny_pure (show wpAny _ _ (ret Value.none) _ _ _ from wpAny_pure ⟨rfl, h3, tk3, rfl, st, fun b o e => ?_⟩)
      have lb : b < s.heap.objs.size := Heap.lt_size e
      exact hm.heap b o (by rw [Heap.size_push]; simp only [List.mem_cons, List.not_mem_nil, or_false, not_or]; exact ⟨Nat.ne_of_lt lb, Nat.ne_of_lt (Nat.lt_succ_of_lt lb)⟩) (Heap.get?_push_of_some _ (Heap.get?_push_of_some _ e))
    · rcases out2 with e | fl2
      · exact hr2
      cases fl2 with
      | ret r =>
        obtain ⟨rfl, h3, tk3, rfl, st, kp⟩ := hr2
        repeat (any_goals (first | assumption | wp_step))
        exact done _ _ st kp
      | _ => exact hr2.elim
  | _ => exact hr.elim
theorem call_set_tup {Sp : Nat → Heap → Addr → Prop} {Vl : Nat → Value → Prop} {l : Addr} {its : Array Value} {Q : Value → Shared → Prop} (G : SetRun P w its.size Vl Sp) (nh : A.handled = none) (hl : s.heap.IsTuple l its) (hv : ∀ i v, its[i]? = some v → Vl i v)
    (done : ∀ (h' : Heap) (tk : Nat), Sp its.size h' s.heap.objs.size → (∀ b o, s.heap.get? b = some o → h'.get? b = some o) → Q (.ref s.heap.objs.size) { s with heap := h', toks := tk }) :
    wpAny (model P w) A (call (.type "set") [.ref l]) Q E s := by
  obtain ⟨_, _, facts_mro⟩ := F.called_set.mro
  have facts_made := F.called_set.made
  have facts_sub := F.called_set.sub
  refine wpAny_call (codeAny_of_tree (show wpAny _ _ (callAny (.type "set") _) _ _ _ from ?_))
  refine wpAny_pure ⟨Code.quiet_builtin _ (by decide +kernel), codeAny_builtin F.entry_type_call ?_⟩
  rw [Around.under_plain (weight_type_call_type "set" [.ref l] []) rfl]
  have facts_nt := F.called_set.notType
  have facts_cc := F.called_set.canCreate
  have facts_tc := F.typeCall_set_1 (.ref l)
  repeat (any_goals (first | assumption | wp_step))
  refine codeAny_mono (L2.code_set_led1 (.ref l) (E := E) (Q₁ := fun ob t1 => ob = .ref s.heap.objs.size ∧ t1 = { s with heap := s.heap.push (set0 w) }) ⟨rfl, rfl⟩) fun out t1 hr => ?_
  rcases out with e | fl
  · exact hr
  cases fl with
  | ret ob =>
    obtain ⟨rfl, rfl⟩ := hr
    have at0 : (s.heap.push (set0 w)).get? s.heap.objs.size = some (set0 w) := Heap.get?_push_size _ rfl
    have ty0 : Shared.TypeIs { s with heap := s.heap.push (set0 w) } (.ref s.heap.objs.size) "set" := ⟨_, at0, rfl⟩
    have facts_il := F.called_set.init.lookup
    have facts_ib := F.called_set.init.bind (.ref s.heap.objs.size)
    repeat (any_goals (first | assumption | wp_step))
    refine codeAny_mono (codeAny_call_builtin (R := wants (fun r t2 => r = .none ∧ ∃ h' tk, t2 = { s with heap := h', toks := tk } ∧ Sp its.size h' s.heap.objs.size ∧ (∀ b o, s.heap.get? b = some o → h'.get? b = some o)) E)
      F.called_set.init.plain F.entry_set_init (check_set_init_1 ty0 ?_)) fun out2 t2 hr2 => ?_
    · obtain ⟨ol, hol, hcl, nl, hdl⟩ := hl
      obtain ⟨oc, od, odt, osl⟩ := ol
      simp only at hcl hdl
      subst hcl hdl
      have hol' : (s.heap.push (set0 w)).get? l = some { cls := .type "tuple", dict := od, data := .seq its nl, slots := osl } := Heap.get?_push_of_some _ hol
      have facts_s1 := F.sub_tuple_set
      have facts_s2 := F.sub_tuple_frozenset
      have facts_ne : (Value.type "tuple" == Value.type "dict") = false := by decide
      have hl1 : (s.heap.push (set0 w)).IsTuple l its := ⟨_, hol', rfl, nl, rfl⟩
      unfold Builtin.«set.__init__» noKeywords Builtin.Frozenset.updateFrom
      generalize hIT : pyIter = IT
      wp_walk
      subst hIT
      refine wpAny_pyIter_tuple hl1 (wpAny_bind (wpAny_runValue ?_))
      have lt : l < s.heap.objs.size := Heap.lt_size hol
      have sz : (s.heap.push (set0 w)).objs.size = s.heap.objs.size + 1 := Heap.size_push ..
      have nI : l ≠ (s.heap.push (set0 w)).objs.size := by rw [Heap.size_push]; exact Nat.ne_of_lt (Nat.lt_succ_of_lt lt)
      have nS : s.heap.objs.size ∉ [(s.heap.push (set0 w)).objs.size, l] := by
        rw [Heap.size_push]; simp only [List.mem_cons, List.not_mem_nil, or_false, not_or]
        exact ⟨Nat.ne_of_lt (Nat.lt_succ_self _), Nat.ne_of_gt lt⟩
      refine G.loop ((Walks.tuple (by simp [nh]) _ l nI its).toS) nS hv (its.size - 0) 0 _ (by omega) (Nat.zero_le _) ⟨⟨_, Heap.get?_push_size _ rfl, rfl, rfl⟩, hl1.push _⟩ (G.start (Heap.get?_push_of_some _ at0)) fun t3 hm st => ?_
      obtain ⟨h3, g3, d3, tk3, os3⟩ := t3
      obtain rfl : g3 = s.gens := hm.gens
      obtain rfl : d3 = s.drawn := hm.drawn
      obtain rfl : os3 = s.os := hm.os
      show wpAny _ _ _ _ _ _
      refine wpAny_pure (show wpAny _ _ (ret Value.none) _ _ _ from wpAny_pure ⟨rfl, h3, tk3, rfl, st, fun b o e => ?_⟩)
      have lb : b < s.heap.objs.size := Heap.lt_size e
      exact hm.heap b o (by rw [Heap.size_push]; simp only [List.mem_cons, List.not_mem_nil, or_false, not_or]; exact ⟨Nat.ne_of_lt lb, Nat.ne_of_lt (Nat.lt_succ_of_lt lb)⟩) (Heap.get?_push_of_some _ (Heap.get?_push_of_some _ e))
    · rcases out2 with e | fl2
      · exact hr2
      cases fl2 with
      | ret r =>
        obtain ⟨rfl, h3, tk3, rfl, st, kp⟩ := hr2
        repeat (any_goals (first | assumption | wp_step))
        exact done _ _ st kp
      | _ => exact hr2.elim
  | _ => exact hr.elim
end
end VS

set_option maxRecDepth 100000
namespace VS
open PySem L2 SeqAt PySem.Spec PyProof.Rows
instance lawKey : LawfulBEq (Sum Int Str) where
  eq_of_beq {a b} h := by
    cases a <;> cases b <;> first | exact congrArg Sum.inl (eq_of_beq (α := Int) h) | exact congrArg Sum.inr (eq_of_beq (α := Str) h) | exact nomatch (show false = true from h)
  rfl {a} := by
    cases a with
    | inl i => exact (beq_self_eq_true i : (i == i) = true)
    | inr x => exact (beq_self_eq_true x : (x == x) = true)
/-! #### how many unlike ones -/
def ddup {α : Type} [DecidableEq α] : List α → List α
  | [] => []
  | k :: ks => if k ∈ ks then ddup ks else k :: ddup ks
theorem ddup_mem {α : Type} [DecidableEq α] : ∀ (ks : List α) (x : α), x ∈ ddup ks ↔ x ∈ ks
  | [], x => by simp [ddup]
  | k :: ks, x => by
    unfold ddup
    split
    · rename_i h
      rw [ddup_mem ks x, List.mem_cons]
      exact ⟨.inr, fun z => z.elim (fun z => by rw [z]; exact h) id⟩
    · rw [List.mem_cons, List.mem_cons, ddup_mem ks x]
theorem ddup_nodup {α : Type} [DecidableEq α] : ∀ (ks : List α), (ddup ks).Nodup
  | [] => by simp [ddup]
  | k :: ks => by
    unfold ddup
    split
    · exact ddup_nodup ks
    · rename_i h
      exact List.nodup_cons.mpr ⟨fun z => h ((ddup_mem ks k).mp z), ddup_nodup ks⟩
theorem ddup_len {α : Type} [DecidableEq α] : ∀ (ks : List α), (ddup ks).length ≤ ks.length
  | [] => by simp [ddup]
  | k :: ks => by
    unfold ddup
    have := ddup_len ks
    split <;> simp only [List.length_cons] <;> omega
theorem ddup_id {α : Type} [DecidableEq α] : ∀ {ks : List α}, ks.Nodup → ddup ks = ks
  | [], _ => rfl
  | k :: ks, h => by
    obtain ⟨h1, h2⟩ := List.nodup_cons.mp h
    unfold ddup
    rw [if_neg h1, ddup_id h2]
theorem ddup_eq {α : Type} [DecidableEq α] (ks : List α) : (ddup ks).length = ks.length ↔ ks.Nodup := by
  constructor
  · induction ks with
    | nil => simp
    | cons k ks ih =>
      intro h
      unfold ddup at h
      split at h
      · have := ddup_len ks
        simp only [List.length_cons] at h; omega
      · rename_i hk
        simp only [List.length_cons, Nat.add_right_cancel_iff] at h
        exact List.nodup_cons.mpr ⟨hk, ih h⟩
  · intro h; rw [ddup_id h]
theorem nodup_len_eq {α : Type} [DecidableEq α] : ∀ {xs ys : List α}, xs.Nodup → ys.Nodup → (∀ x, x ∈ xs ↔ x ∈ ys) → xs.length = ys.length := by
  intro xs ys hx hy h
  have p := (List.perm_ext_iff_of_nodup hx hy).mpr h
  exact p.length_eq
theorem ddup_snoc {α : Type} [DecidableEq α] (ks : List α) (k : α) : (ddup (ks ++ [k])).length = if k ∈ ks then (ddup ks).length else (ddup ks).length + 1 := by
  split
  · rename_i h
    refine nodup_len_eq (ddup_nodup _) (ddup_nodup _) fun x => ?_
    rw [ddup_mem, ddup_mem, List.mem_append, List.mem_singleton]
    exact ⟨fun z => z.elim id fun z => by rw [z]; exact h, .inl⟩
  · rename_i h
    have n : (k :: ddup ks).Nodup := List.nodup_cons.mpr ⟨fun z => h ((ddup_mem _ _).mp z), ddup_nodup _⟩
    have := nodup_len_eq (ddup_nodup (ks ++ [k])) n fun x => by
      rw [ddup_mem, List.mem_append, List.mem_singleton, List.mem_cons, ddup_mem]
      exact Or.comm
    rw [this]; simp
theorem uniq_lt : ∀ {xs ys : List Int}, xs.Pairwise (· < ·) → ys.Pairwise (· < ·) → (∀ x, x ∈ xs ↔ x ∈ ys) → xs = ys
  | [], [], _, _, _ => rfl
  | [], y :: ys, _, _, h => by have := (h y).mpr (by simp); simp at this
  | x :: xs, [], _, _, h => by have := (h x).mp (by simp); simp at this
  | x :: xs, y :: ys, hx, hy, h => by
    obtain ⟨x1, x2⟩ := List.pairwise_cons.mp hx
    obtain ⟨y1, y2⟩ := List.pairwise_cons.mp hy
    have e : x = y := by
      rcases List.mem_cons.mp ((h x).mp (by simp)) with z | z
      · exact z
      · rcases List.mem_cons.mp ((h y).mpr (by simp)) with q | q
        · exact q.symm
        · have := x1 y q; have := y1 x z; omega
    subst e
    congr 1
    refine uniq_lt x2 y2 fun z => ?_
    constructor
    · intro hz
      rcases List.mem_cons.mp ((h z).mp (by simp [hz])) with q | q
      · have := x1 z hz; omega
      · exact q
    · intro hz
      rcases List.mem_cons.mp ((h z).mpr (by simp [hz])) with q | q
      · have := y1 z hz; omega
      · exact q
/-- the unlike ones, rising -/
def sortU (ns : List Int) : List Int := sortI (ddup ns)
theorem sortU_mem (ns : List Int) (x : Int) : x ∈ sortU ns ↔ x ∈ ns := by unfold sortU sortI; rw [List.mem_mergeSort, ddup_mem]
theorem sortU_lt (ns : List Int) : (sortU ns).Pairwise (· < ·) := by
  have h1 : (sortU ns).Pairwise (· ≤ ·) := by
    have := List.pairwise_mergeSort (le := fun a b : Int => decide (a ≤ b)) (fun a b c h1 h2 => by simp at *; omega) (fun a b => by simp; omega) (ddup ns)
    exact this.imp fun h => by simpa using h
  have h2 : (sortU ns).Nodup := (List.mergeSort_perm _ _).nodup_iff.mpr (ddup_nodup ns)
  exact L2.lt_of_le_nodup _ h1 h2
/-! #### the two kinds of set -/
section
variable {P : Program} {w : World} {A : Around} {E : Value → Shared → Prop} {s : Shared}
theorem run_keys (ks : List Key) (hb : ks.length + 1 < scanBound) : SetRun P w ks.length (fun i v => ∃ k, ks[i]? = some k ∧ RelV (kV k) v) (fun i h a => h.SetOf (mixKind P w) a (fun k => decide (k ∈ ks.take i)) (ddup (ks.take i)).length) where
  start := fun {h a} e => ⟨_, #[], 0, _, e, ⟨rfl, rfl, rfl⟩, rfl, (fun e he => by simp at he), (fun k => by simp), (by decide), (by rfl), rfl⟩
  keep := fun sp k => by obtain ⟨o, es, ep, t, e, r⟩ := sp; exact ⟨o, es, ep, t, k o e, r⟩
  add := fun {i a v A E s Q} hi sp hv q => by
    obtain ⟨k, hk, rv⟩ := hv
    unfold setAdd
    refine wpAny_holding (wpAny_bind ((mixKind P w).pyHash (k := k) (kV_is rv) ?_))
    have hl := ddup_len (ks.take i)
    rw [List.length_take] at hl
    refine wpAny_setAddHashed_of (knd := mixKind P w) (s := { s with toks := s.toks + 1 }) (kV_is rv) (key_scan rv) sp (by omega) fun h' sb st => ?_
    refine q _ h' _ sb (Nat.le_succ _) (SetOf_congr st (fun j => ?_) ?_)
    · rw [List.take_add_one, hk]
      simp [List.mem_append]
    · rw [List.take_add_one, hk]
      show (if decide (k ∈ ks.take i) = true then _ else _) = _
      rw [Option.toList_some, ddup_snoc]
      simp
theorem run_ints (ns : List Int) (hb : ns.length + 1 < scanBound) : SetRun P w ns.length (fun i v => ∃ (k : Int) (t : Tok), ns[i]? = some k ∧ v = Value.int k t) (fun i h a => ∃ c, c ≤ i ∧ SetR w h a (fun j => decide (j ∈ ns.take i)) c) where
  start := fun {h a} e => ⟨0, Nat.le_refl _, L2.setR_new_at e⟩
  keep := fun ⟨c, hc, R⟩ k => ⟨c, hc, R.at k⟩
  add := fun {i a v A E s Q} hi sp hv q => by
    obtain ⟨z, t, hz, rfl⟩ := hv
    obtain ⟨c, hc, R⟩ := sp
    unfold setAdd
    refine wpAny_holding (wpAny_bind ((intKind P w).pyHash (k := z) (intKind_is _ _ _ _) ?_))
    refine setR_add_hashed (s := { s with toks := s.toks + 1 }) R (by omega) fun h' sb R2 => ?_
    refine q _ h' _ sb (Nat.le_succ _) ⟨_, ?_, R2.congr fun j => ?_⟩
    · split <;> omega
    · rw [List.take_add_one, hz]
      simp [List.mem_append]
theorem sorted_setU {a : Addr} {S : Int → Bool} {n : Nat} {Q : Value → Shared → Prop} (R : SetR w s.heap a S n) (hh : A.handled = none)
    (hQ : ∀ t p (out : Array Value) (c : Nat) (ns : List Int), (∀ b o, s.heap.get? b = some o → t.heap.get? b = some o) → t.gens = s.gens → t.os = s.os → s.heap.objs.size ≤ p →
      t.heap.get? p = some (seqObj "list" out c) → IntsAre out.toList ns → ns.Pairwise (· < ·) → (∀ k, k ∈ ns ↔ S k = true) → ns.length = n → Q (.ref p) t) :
    wpAny (model P w) A (call (.builtin "sorted") [.ref a]) Q E s := by
  obtain ⟨o, es, ep, tb, ho, hex, hd, g, nd, hm, hb, hf, hn, hr, hl⟩ := R
  refine Calls.call_function_entry kind_sorted plain_sorted entry_sorted (args_sorted1 _) ?_
  unfold Builtin.«sorted»
  refine wpAny_bind (m := checkCount "sorted" 1 1 _) (wpAny_pure (wpAny_bind (collect_set (A := A.in1) hh ⟨o, ho, hex.1, hd⟩ hf hb hr hl fun t1 vs k1 hz g1 o1 pm => ?_)))
  have hvl : vs.length = n := by rw [pm.length_eq, List.length_map, Array.length_toList]; exact hn
  have hvz : vs.length ≤ sizeLine := by rw [hvl, ← hn, sizeLine_eq]; unfold scanBound at hb; omega
  have ia : IntsAre vs (vs.map Builtin.Re.reRawOf) := ints_of vs fun v hv => by
    obtain ⟨e, he, q⟩ := List.mem_map.mp (pm.mem_iff.mp hv)
    obtain ⟨k, tk, h1, _⟩ := g e he
    exact ⟨k, tk, q ▸ h1⟩
  have pk : (vs.map Builtin.Re.reRawOf).Perm (es.toList.map keyOf) := by
    have q := pm.map Builtin.Re.reRawOf
    rwa [List.map_map] at q
  refine wpAny_bind (wpAny_newList ?_ hvz)
  have atL : (t1.heap.push (seqObj "list" vs.toArray 0)).get? t1.heap.objs.size = some (seqObj "list" vs.toArray 0) := Heap.get?_push_size _ rfl
  refine wpAny_bind (wpAny_holding (wpAny_call_entry slot_list_sort ⟨_, atL, rfl⟩ entry_list_sort (SrtO.list_sort_ord SrtO.swo_int atL hvz (fun h2 => SrtO.ints_sortable ia h2) fun out h1 h2 => ⟨.none, rfl, ?_⟩) (args_list_sort _)))
  obtain ⟨q1, q2, q3⟩ := SrtO.ints_out ia h1 h2
  obtain ⟨c, hc⟩ := sortedHeap_at (vs := vs) (out := out.toArray) atL
  have pn := q2.trans pk
  refine wpAny_pure ⟨_, rfl, hQ _ t1.heap.objs.size out.toArray c (out.map SrtO.iv) (fun b u e => ?_) g1 o1 hz hc (by simpa using q1) (lt_of_le_nodup _ q3 (pn.nodup_iff.mpr nd)) (fun k => by rw [pn.mem_iff, ← hm k]) ?_⟩
  · have q := k1 b u e
    have lt := Heap.lt_size q
    show (sortedHeap (t1.heap.push (seqObj "list" vs.toArray 0)) t1.heap.objs.size vs out.toArray).get? b = some u
    rw [sortedHeap_old (Nat.ne_of_lt lt) (by rw [size_push']; exact Nat.lt_succ_of_lt lt)]
    exact Heap.get?_push_of_some _ q
  · rw [pn.length_eq, List.length_map, Array.length_toList]; exact hn
end
/-! #### len(set(xs)), sorted(set(xs)) -/
def keysD : List D → Option (List Key)
  | [] => some []
  | d :: ds => match d.key, keysD ds with
    | some k, some ks => some (k :: ks)
    | _, _ => none
def seqOf : D → Option (List D)
  | .lst _ ds => some ds
  | .tup ds => some ds
  | _ => none
def cLenSet (c : CE) : CE := fun env => (c env).bind fun d env => match seqOf d with
  | some ds => (match keysD ds with
    | some ks => if ks.length ≤ 4000 then .ok (.int (ddup ks).length) env else .err
    | none => .err)
  | none => .err
def cSortSet (c : CE) : CE := fun env => (c env).bind fun d env => match d with
  | .lst _ ds => (match intsD ds with
    | some ns => if ns.length ≤ 4000 then .ok (.lst .m ((sortU ns).map D.int)) env else .err
    | none => .err)
  | _ => .err
section
variable {X : Cx} {W : WX} {M Rs : List Nat} {e : Expr} {c : CE} {p p2 q2 pos : Pos} {C : Ctx} {H : Hp}
theorem reps_keysV : ∀ {ds : List D} {ks : List Key} {vs : List V} {fp : List Addr}, keysD ds = some ks → Reps C H ds vs fp → vs = ks.map kV
  | [], ks, vs, fp, h, ⟨e, _⟩ => by cases h; exact e
  | d :: ds, ks, vs, fp, h, ⟨v, vs', f1, f2, e, r, rs, _⟩ => by
    unfold keysD at h
    split at h
    · rename_i k ks' hk hks
      cases h
      subst e
      rw [reps_keysV hks rs]
      congr 1
      cases d with
      | int i => cases hk; exact r.1
      | str z => cases hk; exact r.1
      | _ => cases hk
    · cases h
def tSetOf (K : PySem.W.Frag) (ta : TE) (R : List V → Hp → VK → Prop) : TE := fun σ H Q => ta σ H fun x H1 => ∃ l xs, x = .ref l ∧ (SqL K H1 l xs ∨ SqT K H1 l xs) ∧ R xs H1 Q
theorem vals_get {xs : List V} {us : List Value} (r : Vals xs us) : ∀ {i : Nat} {u : Value}, us[i]? = some u → ∃ x, xs[i]? = some x ∧ RelV x u := by
  induction r with
  | nil => intro i u h; simp at h
  | cons r1 r2 ih =>
    intro i u h
    cases i with
    | zero => simp at h; subst h; exact ⟨_, rfl, r1⟩
    | succ i => simp only [List.getElem?_cons_succ] at h ⊢; exact ih h
theorem pe_lenSet2 {ta : TE} (hc : X.calm = true) (hg : Gl X "len") (hm : X.mg "len" = none) (hg2 : Gl X "set") (hm2 : X.mg "set" = none) (ha : PE X e ta) (na : starEach [e] X.env = (false, eval e X.env) :: starEach [] X.env) :
    PE X (.Call (.Name "len" p) [.Call (.Name "set" p2) [e] [] q2] [] pos) (tSetOf X.K ta fun xs H Q => ∃ ks : List Key, xs = ks.map kV ∧ ks.length ≤ 4000 ∧ Q (.int (ddup ks).length) H) := by
  refine ⟨fun pins s σ H Q I h => Call_ (ld_blt I hg hm boot_len (PyProof.Rows.callWith_builtin1 (PyProof.Rows.args_cons ?_ rfl) rfl rfl))⟩
  refine Call_ (ld_blt I hg2 hm2 boot_set (PyProof.Rows.callWith_type1 (PyProof.Rows.args_cons (thn (ha.run pins s σ H _ I h) fun v s1 ⟨x, H1, I1, r1, l, xs, ex, hq, ks, ek, hk, q1⟩ => PyProof.Rows.args_nil ?_) na) na rfl))
  subst ex ek
  cases r1
  have fin : ∀ (its : List Value), Vals (ks.map kV) its → ∀ (h' : Heap) (tk : Nat), h'.SetOf (mixKind X.prog X.w) s1.heap.objs.size (fun k => decide (k ∈ ks.take ks.length)) (ddup (ks.take ks.length)).length →
      (∀ b o, s1.heap.get? b = some o → h'.get? b = some o) →
      wpAny (model X.prog X.w) X.A (spliced (backTo pos (starEach [] X.env))) (fun vs t => wpAny (model X.prog X.w) X.A (call (.builtin "len") (Value.ref s1.heap.objs.size :: vs)) (EP X pins σ Q) X.xe t) X.xe { s1 with heap := h', toks := tk } := fun its r h' tk hS hk' => by
    refine PyProof.Rows.args_nil ?_
    rw [List.take_length] at hS
    obtain ⟨o, es, ep, t, ho, hex, hd, _, _, _, hf, hn⟩ := hS
    have I2 : Inv X pins σ H1 { s1 with heap := h', toks := tk } := I1.kept fun b o e => hk' b o e
    have hl := ddup_len ks
    refine call_len_set ho hex hd hf (by rw [hn]; omega) ⟨.int (ddup ks).length, H1, I2.tok _, ⟨_, by rw [hn]⟩, q1⟩
  have hv : ∀ (its : List Value), Vals (ks.map kV) its → its.toArray.size = ks.length ∧ ∀ i v, its.toArray[i]? = some v → ∃ k, ks[i]? = some k ∧ RelV (kV k) v := fun its r => by
    refine ⟨by rw [List.size_toArray, ← r.length, List.length_map], fun i v hi => ?_⟩
    obtain ⟨x, hx, rx⟩ := vals_get r (i := i) (u := v) (by rw [← Array.getElem?_toList] at hi; exact hi)
    rw [List.getElem?_map] at hx
    obtain ⟨k, hk, rfl⟩ := Option.map_eq_some_iff.mp hx
    exact ⟨k, hk, rx⟩
  have hb : ks.length + 1 < scanBound := by unfold scanBound; omega
  rcases hq with hq | hq
  · obtain ⟨its, r, pl, hz⟩ := I1.list hq
    obtain ⟨e1, e2⟩ := hv its r
    refine call_set_lst (P := X.prog) (w := X.w) (Vl := fun i v => ∃ k, ks[i]? = some k ∧ RelV (kV k) v) (by rw [e1]; exact run_keys ks hb) (I1.ok.hd hc) pl.isList e2 fun h' tk hS hk' => ?_
    rw [e1] at hS
    exact fin its r h' tk hS hk'
  · obtain ⟨its, r, pl, hz⟩ := I1.tuple hq
    obtain ⟨e1, e2⟩ := hv its r
    refine call_set_tup (P := X.prog) (w := X.w) (Vl := fun i v => ∃ k, ks[i]? = some k ∧ RelV (kV k) v) (by rw [e1]; exact run_keys ks hb) (I1.ok.hd hc) pl e2 fun h' tk hS hk' => ?_
    rw [e1] at hS
    exact fin its r h' tk hS hk'
theorem pe_sortSet {ta : TE} (hc : X.calm = true) (hg : Gl X "sorted") (hm : X.mg "sorted" = none) (hg2 : Gl X "set") (hm2 : X.mg "set" = none) (ha : PE X e ta) (na : starEach [e] X.env = (false, eval e X.env) :: starEach [] X.env) :
    PE X (.Call (.Name "sorted" p) [.Call (.Name "set" p2) [e] [] q2] [] pos) (fun σ H Q => ta σ H fun x H1 => ∃ (l : Addr) (ns : List Int), x = V.ref l ∧ SqL X.K H1 l (ns.map V.int) ∧ ns.length ≤ 4000 ∧ ∀ a, H1 a = none → Q (.ref a) (L2.upd H1 a (.lst ((sortU ns).map V.int)))) := by
  refine ⟨fun pins s σ H Q I h => Call_ (ld_blt I hg hm (show bootBuiltins "sorted" = some (.builtin "sorted") by decide +kernel) (PyProof.Rows.callWith_builtin1 (PyProof.Rows.args_cons ?_ rfl) rfl rfl))⟩
  refine Call_ (ld_blt I hg2 hm2 boot_set (PyProof.Rows.callWith_type1 (PyProof.Rows.args_cons (thn (ha.run pins s σ H _ I h) fun v s1 ⟨x, H1, I1, r1, l, ns, ex, hq, hk, q1⟩ => PyProof.Rows.args_nil ?_) na) na rfl))
  subst ex
  cases r1
  obtain ⟨its, r, pl, hz⟩ := I1.list hq
  have e1 : its.toArray.size = ns.length := by rw [List.size_toArray, ← r.length, List.length_map]
  have e2 : ∀ i v, its.toArray[i]? = some v → ∃ (k : Int) (t : Tok), ns[i]? = some k ∧ v = Value.int k t := fun i v hi => by
    obtain ⟨x, hx, rx⟩ := vals_get r (i := i) (u := v) (by rw [← Array.getElem?_toList] at hi; exact hi)
    rw [List.getElem?_map] at hx
    obtain ⟨k, hk, rfl⟩ := Option.map_eq_some_iff.mp hx
    obtain ⟨t, rfl⟩ := (show ∃ t, v = Value.int k t from rx)
    exact ⟨k, t, hk, rfl⟩
  refine call_set_lst (P := X.prog) (w := X.w) (Vl := fun i v => ∃ (k : Int) (t : Tok), ns[i]? = some k ∧ v = Value.int k t) (by rw [e1]; exact run_ints ns (by unfold scanBound; omega)) (I1.ok.hd hc) pl.isList e2 fun h' tk hS hk' => ?_
  rw [e1] at hS
  obtain ⟨cn, hcn, R⟩ := hS
  rw [List.take_length] at R
  refine PyProof.Rows.args_nil ?_
  have I2 : Inv X pins σ H1 { s1 with heap := h', toks := tk } := I1.kept fun b o e => hk' b o e
  refine sorted_setU (s := { s1 with heap := h', toks := tk }) R (I2.ok.hd hc) fun t pa out cc ms kp g o hp hgt hi hs hmem hl => ?_
  have em : ms = sortU ns := uniq_lt hs (sortU_lt ns) fun k => by rw [hmem, sortU_mem]; simp
  have hlen : (ms.map V.int).length ≤ sizeLine := by rw [List.length_map, hl, sizeLine_eq]; omega
  have hn : H1 pa = none := I2.hok.fresh hp
  have J : Inv X pins σ (L2.upd H1 pa (.lst (ms.map V.int))) { s1 with heap := t.heap, gens := t.gens, drawn := t.drawn, toks := t.toks } :=
    Inv.call (s := { s1 with heap := h', toks := tk }) (ch := []) I2 (Un.laid kp hp hn) (I2.hok.laid kp hp ⟨hlen, out.toList, cc, vals_of_ints hi, hgt⟩) (by rw [g]; exact I2.bare) (fun _ z => nomatch z)
  have et : t = { s1 with heap := t.heap, gens := t.gens, drawn := t.drawn, toks := t.toks } := by
    cases t
    cases s1
    cases o
    rfl
  rw [et]
  exact ⟨.ref pa, _, J, rfl, by rw [em]; exact q1 pa hn⟩
theorem so_lenSet (hc : X.calm = true) (hg : Gl X "len") (hm : X.mg "len" = none) (hg2 : Gl X "set") (hm2 : X.mg "set" = none) (h : SB X W M Rs e c) (na : starEach [e] X.env = (false, eval e X.env) :: starEach [] X.env) :
    SO X W M (.Call (.Name "len" p) [.Call (.Name "set" p2) [e] [] q2] [] pos) (cLenSet c) := by
  obtain ⟨t, pe, q⟩ := h.go
  refine ⟨_, pe_lenSet2 hc hg hm hg2 hm2 pe na, fun C fs env σ H tf Q hC G po => ?_⟩
  show t σ H fun x H1 => _
  refine q C fs env σ H tf _ hC G ?_
  unfold cLenSet at po
  cases e1 : c env with
  | err => rw [e1] at po; exact po
  | ex x env' => rw [e1] at po; exact po
  | ok d env1 =>
    rw [e1] at po
    intro v fs1 H1 fp own G1 s1 r i1
    simp only [R.bind] at po
    cases hs : seqOf d with
    | none => rw [hs] at po; exact po.elim
    | some ds =>
    rw [hs] at po
    simp only at po
    cases hk : keysD ds with
    | none => rw [hk] at po; exact po.elim
    | some ks =>
    rw [hk] at po
    simp only at po
    by_cases hl : ks.length ≤ 4000
    case neg => rw [if_neg hl] at po; exact po.elim
    rw [if_pos hl] at po
    have k := comes_post (own := own) G1 s1 po
    cases d with
    | lst g ds' =>
      cases hs
      obtain ⟨a, vs, f, rfl, q, rz⟩ := rep_list hC G1.fr r
      exact ⟨a, vs, rfl, .inl q, ks, reps_keysV hk rz, hl, k.here ⟨rfl, rfl⟩⟩
    | tup ds' =>
      cases hs
      obtain ⟨a, vs, rfl, q, rz⟩ := rep_tup hC r
      exact ⟨a, vs, rfl, .inr q, ks, reps_keysV hk rz, hl, k.here ⟨rfl, rfl⟩⟩
    | _ => cases hs
theorem so_sortSet (hc : X.calm = true) (hg : Gl X "sorted") (hm : X.mg "sorted" = none) (hg2 : Gl X "set") (hm2 : X.mg "set" = none) (h : SB X W M Rs e c) (na : starEach [e] X.env = (false, eval e X.env) :: starEach [] X.env) :
    SO X W M (.Call (.Name "sorted" p) [.Call (.Name "set" p2) [e] [] q2] [] pos) (cSortSet c) := by
  obtain ⟨t, pe, q⟩ := h.go
  refine ⟨_, pe_sortSet hc hg hm hg2 hm2 pe na, fun C fs env σ H tf Q hC G po => ?_⟩
  show t σ H fun x H1 => _
  refine q C fs env σ H tf _ hC G ?_
  unfold cSortSet at po
  cases e1 : c env with
  | err => rw [e1] at po; exact po
  | ex x env' => rw [e1] at po; exact po
  | ok d env1 =>
    rw [e1] at po
    intro v fs1 H1 fp own G1 s1 r i1
    simp only [R.bind] at po
    cases d with
    | lst g ds =>
      simp only at po
      cases hk : intsD ds with
      | none => rw [hk] at po; exact po.elim
      | some ns =>
      rw [hk] at po
      simp only at po
      by_cases hl : ns.length ≤ 4000
      case neg => rw [if_neg hl] at po; exact po.elim
      rw [if_pos hl] at po
      have k := comes_post (own := own) G1 s1 po
      obtain ⟨a, vs, f, rfl, q, rz⟩ := rep_list hC G1.fr r
      refine ⟨a, ns, rfl, ?_, hl, fun b hb => k.lst' (reps_ints _) hb⟩
      rw [← ints_rep hk rz]; exact q
    | _ => exact po.elim
@[simp] theorem e_lenSet {env : Env} : cLenSet c env = (c env).bind fun d env => match seqOf d with
  | some ds => (match keysD ds with
    | some ks => if ks.length ≤ 4000 then .ok (.int (ddup ks).length) env else .err
    | none => .err)
  | none => .err := (rfl)
@[simp] theorem e_sortSet {env : Env} : cSortSet c env = (c env).bind fun d env => match d with
  | .lst _ ds => (match intsD ds with
    | some ns => if ns.length ≤ 4000 then .ok (.lst .m ((sortU ns).map D.int)) env else .err
    | none => .err)
  | _ => .err := (rfl)
end
end VS

set_option maxRecDepth 100000
set_option maxHeartbeats 0
namespace VS
open PySem L2 SeqAt PySem.Spec PyProof.Rows
def top (i : Nat) : Stmt := PySem.Challenge.pw_joinback_k40_standing_rows.main.body.getD i (.Pass ⟨0, 0, 0, 0⟩)
section
variable {P : Program} {w : World} {K : PySem.W.Frag} {mg : Str → Option Value} {base : Heap}
/-! #### _law_tape -/
abbrev s__law_tape : Stmt := top 3
theorem sc__law_tape : FnScope ["_law_script", "_law_k", "_law_cell", "_law_digits"] ["_law_script", "_law_k"] (defScope s__law_tape) := ⟨rfl, rfl, rfl, by decide +kernel, rfl, by decide +kernel, by decide +kernel⟩
def b__law_tape : CS := (sSeq (sAsg (cK (.int 0)) (gSet 2)) (sSeq (sIf (cTt (c2 pLtG (cVar 1) (cL pLen (cCons (cVar 0) cNil)))) (sAsg (cImm (cIdx (cVar 0) (cVar 1))) (gSet 2)) sNil) (sSeq (sAsg (c2 pMulI (cL pAbs (cCons (cVar 2) cNil)) (cL pInt1 (cCons (c2 pGeG (cL pAbs (cCons (cVar 2) cNil)) (c2 pPow (cK (.int 10)) (cK (.int 18)))) cNil))) (gSet 3)) (sRet (cLst (cCons (cGet 3) (cCons (c2 pMod (c2 pMulI (c2 pAdd (c2 pAdd (c2 pMod (cVar 2) (cK (.int 2147483647))) (c2 pMulI (cK (.int 7919)) (cVar 1))) (cK (.int 11))) (cK (.int 48271))) (cK (.int 2147483629))) cNil)))))))
def φ__law_tape : List D → FR := fnRun 4 [false, false] b__law_tape
theorem ok__law_tape {f : Addr} {fd : FuncData} (F : Fun K "_law_tape" "_law_tape" s__law_tape f fd) (z_len : mg "len" = none) (z_abs : mg "abs" = none) (z_int : mg "int" = none) : FnOk P w K mg base (L2.CX P w) 1 f fd ["_law_script", "_law_k"] (spF K mg [false, false] φ__law_tape) := by
  refine' fn_ok (M := _) (Vs := _) F sc__law_tape rfl ?hv fun cdv A outer s H E hr => ?hb
  case hb =>
    have hr : Room 0 (cxOf (L2.CX P w) P w K mg base ["_law_script", "_law_k", "_law_cell", "_law_digits"] "_law_tape" (defScope s__law_tape) f cdv A outer s H E).A := hr
    have hN : (cxOf (L2.CX P w) P w K mg base ["_law_script", "_law_k", "_law_cell", "_law_digits"] "_law_tape" (defScope s__law_tape) f cdv A outer s H E).N.Nodup := sc__law_tape.nd
    have tk : Takes (cxOf (L2.CX P w) P w K mg base ["_law_script", "_law_k", "_law_cell", "_law_digits"] "_law_tape" (defScope s__law_tape) f cdv A outer s H E) (fun cls d _ H => E cls d H) := takes_of rfl rfl rfl rfl
    have hp : PassesOwn (model (cxOf (L2.CX P w) P w K mg base ["_law_script", "_law_k", "_law_cell", "_law_digits"] "_law_tape" (defScope s__law_tape) f cdv A outer s H E).prog (cxOf (L2.CX P w) P w K mg base ["_law_script", "_law_k", "_law_cell", "_law_digits"] "_law_tape" (defScope s__law_tape) f cdv A outer s H E).w) (cxOf (L2.CX P w) P w K mg base ["_law_script", "_law_k", "_law_cell", "_law_digits"] "_law_tape" (defScope s__law_tape) f cdv A outer s H E).A (cxOf (L2.CX P w) P w K mg base ["_law_script", "_law_k", "_law_cell", "_law_digits"] "_law_tape" (defScope s__law_tape) f cdv A outer s H E).env (cxOf (L2.CX P w) P w K mg base ["_law_script", "_law_k", "_law_cell", "_law_digits"] "_law_tape" (defScope s__law_tape) f cdv A outer s H E).xe := passes_of rfl
    refine' (ss_cons (ss_setI hN so_int (by rfl) (by first | exact .inl rfl | exact .inr rfl) (by rfl) (by first | exact .inl rfl | exact .inr rfl | assumption)) (ss_cons (ss_if (st_cmpD (od_ltG hr) (sb_var 1) (SO.sb (so_callB od_len (by rfl) z_len (by rfl) (sa_cons (sb_var 0) sa_nil (by decide) (by rfl)) (by decide) (by decide) (by rfl) (by rfl))) (by first | exact nomark _ | rfl) (by decide)) (ss_one (ss_setI hN (SB.imm (sb_idx hr (sb_var 0) (sb_var 1) (by exact fun _ _ => rfl) (by decide))) (by rfl) (by first | exact .inl rfl | exact .inr rfl) (by rfl) (by first | exact .inl rfl | exact .inr rfl | assumption))) ss_nil) (ss_cons (ss_setI hN (so_bin od_mulI (SO.sb (so_callB od_abs (by rfl) z_abs (by rfl) (sa_cons (sb_var 2) sa_nil (by decide) (by rfl)) (by decide) (by decide) (by rfl) (by rfl))) (SO.sb (so_callTy od_int1 (by rfl) z_int (by rfl) (sa_cons (SO.sb (so_cmpD (od_geG hr) (SO.sb (so_callB od_abs (by rfl) z_abs (by rfl) (sa_cons (sb_var 2) sa_nil (by decide) (by rfl)) (by decide) (by decide) (by rfl) (by rfl))) (SO.sb (so_bin od_pow (SO.sb so_int) (SO.sb so_int) (by decide))) (by first | exact nomark _ | rfl) (by decide))) sa_nil (by decide) (by rfl)) (by decide) (by decide) (by rfl) (by rfl))) (by decide)) (by rfl) (by first | exact .inl rfl | exact .inr rfl) (by rfl) (by first | exact .inl rfl | exact .inr rfl | assumption)) (ss_one (ss_ret (so_lst (sao_cons (so_get 3) (sao_cons (so_bin od_mod (SO.sb (so_bin od_mulI (SO.sb (so_bin od_add (SO.sb (so_bin od_add (SO.sb (so_bin od_mod (sb_var 2) (SO.sb so_int) (by decide))) (SO.sb (so_bin od_mulI (SO.sb so_int) (sb_var 1) (by decide))) (by decide))) (SO.sb so_int) (by decide))) (SO.sb so_int) (by decide))) (SO.sb so_int) (by decide)) sao_nil (by rfl)) (by rfl))))))))
  case hv => decide
/-! #### _law_draw -/
abbrev s__law_draw : Stmt := top 4
theorem sc__law_draw : FnScope ["_law_tape_here", "_law_many", "_law_found", "_law_once"] ["_law_tape_here", "_law_many"] (defScope s__law_draw) := ⟨rfl, rfl, rfl, by decide +kernel, rfl, by decide +kernel, by decide +kernel⟩
def b__law_draw : CS := (sSeq (sIf (cTt (c2 pGtG (cIdx (cVar 0) (cK (.int 0))) (cK (.int 0)))) (sSeq (sAsg (c2 pMod (cIdx (cVar 0) (cK (.int 0))) (cVar 1)) (gSet 2)) (sSeq (sAsg (c2 pDiv (cIdx (cVar 0) (cK (.int 0))) (cVar 1)) (gSubD 0 (lVar 0) (cK (.int 0)))) (sRet (cGet 2)))) sNil) (sSeq (sAsg (c2 pMod (c2 pAdd (c2 pMulI (cIdx (cVar 0) (cK (.int 1))) (cK (.int 48271))) (cK (.int 39373))) (cK (.int 2147483647))) (gSubD 0 (lVar 0) (cK (.int 1)))) (sSeq (sAsg (c2 pMod (c2 pMulI (cIdx (cVar 0) (cK (.int 1))) (c2 pAdd (c2 pMod (cIdx (cVar 0) (cK (.int 1))) (cK (.int 40009))) (cK (.int 7)))) (cK (.int 2147483587))) (gSet 3)) (sRet (c2 pMod (c2 pDiv (cVar 3) (cK (.int 64))) (cVar 1))))))
def φ__law_draw : List D → FR := fnRun 4 [true, false] b__law_draw
theorem ok__law_draw {f : Addr} {fd : FuncData} (F : Fun K "_law_draw" "_law_draw" s__law_draw f fd)  : FnOk P w K mg base (L2.CX P w) 1 f fd ["_law_tape_here", "_law_many"] (spF K mg [true, false] φ__law_draw) := by
  refine' fn_ok (M := _) (Vs := _) F sc__law_draw rfl ?hv fun cdv A outer s H E hr => ?hb
  case hb =>
    have hr : Room 0 (cxOf (L2.CX P w) P w K mg base ["_law_tape_here", "_law_many", "_law_found", "_law_once"] "_law_draw" (defScope s__law_draw) f cdv A outer s H E).A := hr
    have hN : (cxOf (L2.CX P w) P w K mg base ["_law_tape_here", "_law_many", "_law_found", "_law_once"] "_law_draw" (defScope s__law_draw) f cdv A outer s H E).N.Nodup := sc__law_draw.nd
    have tk : Takes (cxOf (L2.CX P w) P w K mg base ["_law_tape_here", "_law_many", "_law_found", "_law_once"] "_law_draw" (defScope s__law_draw) f cdv A outer s H E) (fun cls d _ H => E cls d H) := takes_of rfl rfl rfl rfl
    have hp : PassesOwn (model (cxOf (L2.CX P w) P w K mg base ["_law_tape_here", "_law_many", "_law_found", "_law_once"] "_law_draw" (defScope s__law_draw) f cdv A outer s H E).prog (cxOf (L2.CX P w) P w K mg base ["_law_tape_here", "_law_many", "_law_found", "_law_once"] "_law_draw" (defScope s__law_draw) f cdv A outer s H E).w) (cxOf (L2.CX P w) P w K mg base ["_law_tape_here", "_law_many", "_law_found", "_law_once"] "_law_draw" (defScope s__law_draw) f cdv A outer s H E).A (cxOf (L2.CX P w) P w K mg base ["_law_tape_here", "_law_many", "_law_found", "_law_once"] "_law_draw" (defScope s__law_draw) f cdv A outer s H E).env (cxOf (L2.CX P w) P w K mg base ["_law_tape_here", "_law_many", "_law_found", "_law_once"] "_law_draw" (defScope s__law_draw) f cdv A outer s H E).xe := passes_of rfl
    refine' (ss_cons (ss_if (st_cmpD (od_gtG hr) (sb_idx hr (sb_var 0) (SO.sb so_int) (by exact fun _ _ => rfl) (by decide)) (SO.sb so_int) (by first | exact nomark _ | rfl) (by decide)) (ss_cons (ss_setI hN (so_bin od_mod (sb_idx hr (sb_var 0) (SO.sb so_int) (by exact fun _ _ => rfl) (by decide)) (sb_var 1) (by decide)) (by rfl) (by first | exact .inl rfl | exact .inr rfl) (by rfl) (by first | exact .inl rfl | exact .inr rfl | assumption)) (ss_cons (ss_asg (so_bin od_div (sb_idx hr (sb_var 0) (SO.sb so_int) (by exact fun _ _ => rfl) (by decide)) (sb_var 1) (by decide)) (sg_sub hr (W1 := fun cls d _ H => E cls d H) (W2 := fun cls d _ H => E cls d H) (sl_var 0) (SO.sb so_int) (by decide) (by intro _; rfl)) (by rfl) (by rfl) (by rfl)) (ss_one (ss_ret (so_get 2))))) ss_nil) (ss_cons (ss_asg (so_bin od_mod (SO.sb (so_bin od_add (SO.sb (so_bin od_mulI (sb_idx hr (sb_var 0) (SO.sb so_int) (by exact fun _ _ => rfl) (by decide)) (SO.sb so_int) (by decide))) (SO.sb so_int) (by decide))) (SO.sb so_int) (by decide)) (sg_sub hr (W1 := fun cls d _ H => E cls d H) (W2 := fun cls d _ H => E cls d H) (sl_var 0) (SO.sb so_int) (by decide) (by intro _; rfl)) (by rfl) (by rfl) (by rfl)) (ss_cons (ss_setI hN (so_bin od_mod (SO.sb (so_bin od_mulI (sb_idx hr (sb_var 0) (SO.sb so_int) (by exact fun _ _ => rfl) (by decide)) (SO.sb (so_bin od_add (SO.sb (so_bin od_mod (sb_idx hr (sb_var 0) (SO.sb so_int) (by exact fun _ _ => rfl) (by decide)) (SO.sb so_int) (by decide))) (SO.sb so_int) (by decide))) (by decide))) (SO.sb so_int) (by decide)) (by rfl) (by first | exact .inl rfl | exact .inr rfl) (by rfl) (by first | exact .inl rfl | exact .inr rfl | assumption)) (ss_one (ss_ret (so_bin od_mod (SO.sb (so_bin od_div (sb_var 3) (SO.sb so_int) (by decide))) (sb_var 1) (by decide)))))))
  case hv => decide
/-! #### _law_names -/
abbrev s__law_names : Stmt := top 6
theorem sc__law_names : FnScope ["_law_tape_here", "_law_some", "_law_first", "_law_many", "_law_k"] ["_law_tape_here"] (defScope s__law_names) := ⟨rfl, rfl, rfl, by decide +kernel, rfl, by decide +kernel, by decide +kernel⟩
def b__law_names : CS := (sSeq (sAsg (cSplit (cK (.str "b aa zebra c quartzes ab m knows d mm likes z a ba abcdefgh y")) (cK (.str " "))) (gSet 1)) (sSeq (sAsg (cCall φ__law_draw (aOw (cMv 0) (some 0) (aRo (cK (.int 16)) aNil))) (gSet 2)) (sSeq (sAsg (cImm (cIdx (cLst (cCons (cCall φ__law_draw (aOw (cMv 0) (some 0) (aRo (cK (.int 3)) aNil))) (cCons (c2 pAdd (cK (.int 10)) (cCall φ__law_draw (aOw (cMv 0) (some 0) (aRo (cK (.int 5)) aNil)))) (cCons (c2 pAdd (cK (.int 4)) (cCall φ__law_draw (aOw (cMv 0) (some 0) (aRo (cK (.int 5)) aNil)))) cNil)))) (cL pMinG (cCons (cK (.int 2)) (cCons (cCall φ__law_draw (aOw (cMv 0) (some 0) (aRo (cK (.int 8)) aNil))) cNil))))) (gSet 3)) (sRet (cLc (iRange1 (cCons (cVar 3) cNil)) [4] (gSet 4) cYes (cImm (cIdx (cVar 1) (c2 pMod (c2 pAdd (cVar 2) (c2 pMulI (cK (.int 5)) (cVar 4))) (cK (.int 16))))))))))
def φ__law_names : List D → FR := fnRun 5 [true] b__law_names
theorem ok__law_names {f : Addr} {fd : FuncData} (F : Fun K "_law_names" "_law_names" s__law_names f fd) (z_min : mg "min" = none) (z_range : mg "range" = none) (d__law_draw : Fd P w K mg base 1 "_law_draw" ["_law_tape_here", "_law_many"] [true, false] φ__law_draw) : FnOk P w K mg base (L2.CX P w) 2 f fd ["_law_tape_here"] (spF K mg [true] φ__law_names) := by
  refine' fn_ok (M := _) (Vs := _) F sc__law_names rfl ?hv fun cdv A outer s H E hr => ?hb
  case hb =>
    have hr : Room 1 (cxOf (L2.CX P w) P w K mg base ["_law_tape_here", "_law_some", "_law_first", "_law_many", "_law_k"] "_law_names" (defScope s__law_names) f cdv A outer s H E).A := hr
    have hN : (cxOf (L2.CX P w) P w K mg base ["_law_tape_here", "_law_some", "_law_first", "_law_many", "_law_k"] "_law_names" (defScope s__law_names) f cdv A outer s H E).N.Nodup := sc__law_names.nd
    have tk : Takes (cxOf (L2.CX P w) P w K mg base ["_law_tape_here", "_law_some", "_law_first", "_law_many", "_law_k"] "_law_names" (defScope s__law_names) f cdv A outer s H E) (fun cls d _ H => E cls d H) := takes_of rfl rfl rfl rfl
    have hp : PassesOwn (model (cxOf (L2.CX P w) P w K mg base ["_law_tape_here", "_law_some", "_law_first", "_law_many", "_law_k"] "_law_names" (defScope s__law_names) f cdv A outer s H E).prog (cxOf (L2.CX P w) P w K mg base ["_law_tape_here", "_law_some", "_law_first", "_law_many", "_law_k"] "_law_names" (defScope s__law_names) f cdv A outer s H E).w) (cxOf (L2.CX P w) P w K mg base ["_law_tape_here", "_law_some", "_law_first", "_law_many", "_law_k"] "_law_names" (defScope s__law_names) f cdv A outer s H E).A (cxOf (L2.CX P w) P w K mg base ["_law_tape_here", "_law_some", "_law_first", "_law_many", "_law_k"] "_law_names" (defScope s__law_names) f cdv A outer s H E).env (cxOf (L2.CX P w) P w K mg base ["_law_tape_here", "_law_some", "_law_first", "_law_many", "_law_k"] "_law_names" (defScope s__law_names) f cdv A outer s H E).xe := passes_of rfl
    have D__law_draw := (d__law_draw).mono (k := 1) (by omega)
    refine' (ss_cons (ss_setI hN (so_split (SO.sb so_str) (SO.sb so_str) (by rfl) (by rfl) (by rfl)) (by rfl) (by first | exact .inl rfl | exact .inr rfl) (by rfl) (by first | exact .inl rfl | exact .inr rfl | assumption)) (ss_cons (ss_setI hN (so_call D__law_draw hr tk (sri_ioI (sri_ro (SO.sb so_int) sri_nil (by decide) (by rfl)) (by rfl) (by first | exact Or.inl rfl | exact Or.inr (Or.inl rfl) | exact Or.inr (Or.inr rfl)) (by decide) (by decide) (by rfl)) (by rfl) (by decide) (by rfl) (by rfl)) (by rfl) (by first | exact .inl rfl | exact .inr rfl) (by rfl) (by first | exact .inl rfl | exact .inr rfl | assumption)) (ss_cons (ss_setI hN (SB.imm (sb_idx hr (SO.sb (so_lst (sao_cons (so_call D__law_draw hr tk (sri_ioI (sri_ro (SO.sb so_int) sri_nil (by decide) (by rfl)) (by rfl) (by first | exact Or.inl rfl | exact Or.inr (Or.inl rfl) | exact Or.inr (Or.inr rfl)) (by decide) (by decide) (by rfl)) (by rfl) (by decide) (by rfl) (by rfl)) (sao_cons (so_bin od_add (SO.sb so_int) (SO.sb (so_call D__law_draw hr tk (sri_ioI (sri_ro (SO.sb so_int) sri_nil (by decide) (by rfl)) (by rfl) (by first | exact Or.inl rfl | exact Or.inr (Or.inl rfl) | exact Or.inr (Or.inr rfl)) (by decide) (by decide) (by rfl)) (by rfl) (by decide) (by rfl) (by rfl))) (by decide)) (sao_cons (so_bin od_add (SO.sb so_int) (SO.sb (so_call D__law_draw hr tk (sri_ioI (sri_ro (SO.sb so_int) sri_nil (by decide) (by rfl)) (by rfl) (by first | exact Or.inl rfl | exact Or.inr (Or.inl rfl) | exact Or.inr (Or.inr rfl)) (by decide) (by decide) (by rfl)) (by rfl) (by decide) (by rfl) (by rfl))) (by decide)) sao_nil (by rfl)) (by rfl)) (by rfl)))) (SO.sb (so_callB (od_minG hr rfl) (by rfl) z_min (by rfl) (sa_cons (SO.sb so_int) (sa_cons (SO.sb (so_call D__law_draw hr tk (sri_ioI (sri_ro (SO.sb so_int) sri_nil (by decide) (by rfl)) (by rfl) (by first | exact Or.inl rfl | exact Or.inr (Or.inl rfl) | exact Or.inr (Or.inr rfl)) (by decide) (by decide) (by rfl)) (by rfl) (by decide) (by rfl) (by rfl))) sa_nil (by decide) (by rfl)) (by decide) (by rfl)) (by decide) (by decide) (by rfl) (by rfl))) (by exact fun _ _ => rfl) (by decide))) (by rfl) (by first | exact .inl rfl | exact .inr rfl) (by rfl) (by first | exact .inl rfl | exact .inr rfl | assumption)) (ss_one (ss_ret (so_lc (own := [("_law_k", 4)]) [4] rfl hN (si_range1 (by rfl) z_range (sa_cons (sb_var 3) sa_nil (by decide) (by rfl)) (by rfl)) (blkOk_by (N := ["_law_tape_here", "_law_some", "_law_first", "_law_many", "_law_k"]) (sc := defScope s__law_names) (own := [("_law_k", 4)]) (by decide +kernel)) (fun _ _ _ _ _ => (sg_name 4 hN)) (fun _ _ _ _ _ => sts_nil) (fun _ _ _ _ _ => (SB.imm (sb_idx hr (sb_var 1) (SO.sb (so_bin od_mod (SO.sb (so_bin od_add (sb_var 2) (SO.sb (so_bin od_mulI (SO.sb so_int) (sb_var 4) (by decide))) (by decide))) (SO.sb so_int) (by decide))) (by exact fun _ _ => rfl) (by decide)))) rfl (by decide) (by decide) (by intro _; rfl)))))))
  case hv => decide
/-! #### _law_turn -/
abbrev s__law_turn : Stmt := top 7
theorem sc__law_turn : FnScope ["_law_tape_here"] ["_law_tape_here"] (defScope s__law_turn) := ⟨rfl, rfl, rfl, by decide +kernel, rfl, by decide +kernel, by decide +kernel⟩
def b__law_turn : CS := (sRet (cImm (cIdx (cLst (cCons (cK (.int 0)) (cCons (cK (.int 0)) (cCons (cK (.int 0)) (cCons (cK (.int 2)) (cCons (cK (.int 3)) (cCons (cK (.int 7)) (cCons (cK (.int 1000)) (cCons (cK (.int 1)) cNil))))))))) (cCall φ__law_draw (aOw (cMv 0) (some 0) (aRo (cK (.int 8)) aNil))))))
def φ__law_turn : List D → FR := fnRun 1 [true] b__law_turn
theorem ok__law_turn {f : Addr} {fd : FuncData} (F : Fun K "_law_turn" "_law_turn" s__law_turn f fd) (d__law_draw : Fd P w K mg base 1 "_law_draw" ["_law_tape_here", "_law_many"] [true, false] φ__law_draw) : FnOk P w K mg base (L2.CX P w) 2 f fd ["_law_tape_here"] (spF K mg [true] φ__law_turn) := by
  refine' fn_ok (M := _) (Vs := _) F sc__law_turn rfl ?hv fun cdv A outer s H E hr => ?hb
  case hb =>
    have hr : Room 1 (cxOf (L2.CX P w) P w K mg base ["_law_tape_here"] "_law_turn" (defScope s__law_turn) f cdv A outer s H E).A := hr
    have hN : (cxOf (L2.CX P w) P w K mg base ["_law_tape_here"] "_law_turn" (defScope s__law_turn) f cdv A outer s H E).N.Nodup := sc__law_turn.nd
    have tk : Takes (cxOf (L2.CX P w) P w K mg base ["_law_tape_here"] "_law_turn" (defScope s__law_turn) f cdv A outer s H E) (fun cls d _ H => E cls d H) := takes_of rfl rfl rfl rfl
    have hp : PassesOwn (model (cxOf (L2.CX P w) P w K mg base ["_law_tape_here"] "_law_turn" (defScope s__law_turn) f cdv A outer s H E).prog (cxOf (L2.CX P w) P w K mg base ["_law_tape_here"] "_law_turn" (defScope s__law_turn) f cdv A outer s H E).w) (cxOf (L2.CX P w) P w K mg base ["_law_tape_here"] "_law_turn" (defScope s__law_turn) f cdv A outer s H E).A (cxOf (L2.CX P w) P w K mg base ["_law_tape_here"] "_law_turn" (defScope s__law_turn) f cdv A outer s H E).env (cxOf (L2.CX P w) P w K mg base ["_law_tape_here"] "_law_turn" (defScope s__law_turn) f cdv A outer s H E).xe := passes_of rfl
    have D__law_draw := (d__law_draw).mono (k := 1) (by omega)
    refine' (ss_one (ss_ret (SB.imm (sb_idx hr (SO.sb (so_lst (sao_cons so_int (sao_cons so_int (sao_cons so_int (sao_cons so_int (sao_cons so_int (sao_cons so_int (sao_cons so_int (sao_cons so_int sao_nil (by rfl)) (by rfl)) (by rfl)) (by rfl)) (by rfl)) (by rfl)) (by rfl)) (by rfl)))) (SO.sb (so_call D__law_draw hr tk (sri_ioI (sri_ro (SO.sb so_int) sri_nil (by decide) (by rfl)) (by rfl) (by first | exact Or.inl rfl | exact Or.inr (Or.inl rfl) | exact Or.inr (Or.inr rfl)) (by decide) (by decide) (by rfl)) (by rfl) (by decide) (by rfl) (by rfl))) (by exact fun _ _ => rfl) (by decide)))))
  case hv => decide
/-! #### _law_joinings -/
abbrev s__law_joinings : Stmt := top 8
theorem sc__law_joinings : FnScope ["_law_tape_here", "_law_names_here", "_law_turn_here", "_law_found", "_law_wide", "_law_kept", "_law_name", "_law_slips", "_law_turn_by", "_law_way", "_law_step", "_law_one", "_law_other"] ["_law_tape_here", "_law_names_here", "_law_turn_here"] (defScope s__law_joinings) := ⟨rfl, rfl, rfl, by decide +kernel, rfl, by decide +kernel, by decide +kernel⟩
def l__law_joinings_1 : CS := (sSeq (sPar 11 12 (cCons (cImm (cIdx (cVar 1) (cCall φ__law_draw (aOw (cMv 0) (some 0) (aRo (cL pLen (cCons (cVar 1) cNil)) aNil))))) (cCons (cImm (cIdx (cVar 1) (cCall φ__law_draw (aOw (cMv 0) (some 0) (aRo (cL pLen (cCons (cVar 1) cNil)) aNil))))) cNil))) (sSeq (sAsg (cCall φ__law_draw (aOw (cMv 0) (some 0) (aRo (cK (.int 9)) aNil))) (gSet 9)) (sSeq (sIf (cTt (c2 pEq (cVar 9) (cK (.int 0)))) (sAsg (cGet 11) (gSet 12)) sNil) (sSeq (sIf (tcAnd (cTt (c2 pEq (cVar 9) (cK (.int 1)))) (cTt (c2 pNe (cVar 3) (cLst cNil)))) (sAsg (cSl (cIdx (cVar 3) (cCall φ__law_draw (aOw (cMv 0) (some 0) (aRo (cL pLen (cCons (cVar 3) cNil)) aNil)))) pNo (pAt (cK (.int 2)))) (gTupD 2 (gConsD (gSet 11) (gConsD (gSet 12) gNilD)))) sNil) (sSeq (sIf (tcAnd (cTt (c2 pEq (cVar 9) (cK (.int 2)))) (cTt (c2 pNe (cVar 3) (cLst cNil)))) (sAsg (cSl (cIdx (cVar 3) (cCall φ__law_draw (aOw (cMv 0) (some 0) (aRo (cL pLen (cCons (cVar 3) cNil)) aNil)))) pNo (pAt (cK (.int 2)))) (gTupD 2 (gConsD (gSet 12) (gConsD (gSet 11) gNilD)))) sNil) (sSeq (sAsg (c2 pAdd (c2 pSub (cIdx (cVar 5) (cVar 12)) (cIdx (cVar 5) (cVar 11))) (c2 pMulI (cVar 2) (c2 pSub (cCall φ__law_draw (aOw (cMv 0) (some 0) (aRo (cK (.int 5)) aNil))) (cK (.int 2))))) (gSet 10)) (sSeq (sIf (tcAnd (cTt (c2 pGtG (cVar 7) (cK (.int 0)))) (cTt (c2 pEq (cCall φ__law_draw (aOw (cMv 0) (some 0) (aRo (cVar 7) aNil))) (cK (.int 0))))) (sAsg (c2 pAdd (cVar 10) (cIdx (cLst (cCons (cK (.int 1)) (cCons (c1 pNeg (cK (.int 1))) (cCons (cK (.int 2)) (cCons (c2 pPow (cK (.int 10)) (cK (.int 11))) cNil))))) (cCall φ__law_draw (aOw (cMv 0) (some 0) (aRo (cK (.int 4)) aNil))))) (gSet 10)) sNil) (sExpr (cMut 3 kdL mAppend (lVar 3) (cCons (cTup (cCons (cGet 11) (cCons (cGet 12) (cCons (cGet 10) cNil)))) cNil))))))))))
def b__law_joinings : CS := (sSeq (sAsg (cLst cNil) (gSet 3)) (sSeq (sAsg (cImm (cIdx (cLst (cCons (cK (.int 3)) (cCons (cK (.int 3)) (cCons (cK (.int 12)) (cCons (cK (.int 12)) (cCons (cK (.int 12)) (cCons (c2 pMulI (cK (.int 4)) (c2 pPow (cK (.int 10)) (cK (.int 11)))) cNil))))))) (cCall φ__law_draw (aOw (cMv 0) (some 0) (aRo (cK (.int 6)) aNil))))) (gSet 4)) (sSeq (sAsg (cL pDictG (cCons (cLc (iAnyD (cVar 1)) [6] (gSet 6) cYes (cTup (cCons (cGet 6) (cCons (c2 pSub (cCall φ__law_draw (aOw (cMv 0) (some 0) (aRo (c2 pMulI (cK (.int 2)) (cVar 4)) aNil))) (cVar 4)) cNil)))) cNil)) (gSet 5)) (sSeq (sAsg (cImm (cIdx (cLst (cCons (cK (.int 0)) (cCons (cK (.int 0)) (cCons (cK (.int 3)) (cCons (cK (.int 12)) cNil))))) (cCall φ__law_draw (aOw (cMv 0) (some 0) (aRo (cK (.int 4)) aNil))))) (gSet 7)) (sSeq (sFor (iRange1 (cCons (cCall φ__law_draw (aOw (cMv 0) (some 0) (aRo (c2 pAdd (c2 pMulI (cK (.int 2)) (cL pLen (cCons (cVar 1) cNil))) (cK (.int 1))) aNil))) cNil)) (gSet 8) l__law_joinings_1) (sRet (cGet 3)))))))
def φ__law_joinings : List D → FR := fnRun 13 [true, false, false] b__law_joinings
theorem ok__law_joinings {f : Addr} {fd : FuncData} (F : Fun K "_law_joinings" "_law_joinings" s__law_joinings f fd) (z_dict : mg "dict" = none) (z_len : mg "len" = none) (z_range : mg "range" = none) (d__law_draw : Fd P w K mg base 1 "_law_draw" ["_law_tape_here", "_law_many"] [true, false] φ__law_draw) : FnOk P w K mg base (L2.CX P w) 2 f fd ["_law_tape_here", "_law_names_here", "_law_turn_here"] (spF K mg [true, false, false] φ__law_joinings) := by
  refine' fn_ok (M := _) (Vs := _) F sc__law_joinings rfl ?hv fun cdv A outer s H E hr => ?hb
  case hb =>
    have hr : Room 1 (cxOf (L2.CX P w) P w K mg base ["_law_tape_here", "_law_names_here", "_law_turn_here", "_law_found", "_law_wide", "_law_kept", "_law_name", "_law_slips", "_law_turn_by", "_law_way", "_law_step", "_law_one", "_law_other"] "_law_joinings" (defScope s__law_joinings) f cdv A outer s H E).A := hr
    have hN : (cxOf (L2.CX P w) P w K mg base ["_law_tape_here", "_law_names_here", "_law_turn_here", "_law_found", "_law_wide", "_law_kept", "_law_name", "_law_slips", "_law_turn_by", "_law_way", "_law_step", "_law_one", "_law_other"] "_law_joinings" (defScope s__law_joinings) f cdv A outer s H E).N.Nodup := sc__law_joinings.nd
    have tk : Takes (cxOf (L2.CX P w) P w K mg base ["_law_tape_here", "_law_names_here", "_law_turn_here", "_law_found", "_law_wide", "_law_kept", "_law_name", "_law_slips", "_law_turn_by", "_law_way", "_law_step", "_law_one", "_law_other"] "_law_joinings" (defScope s__law_joinings) f cdv A outer s H E) (fun cls d _ H => E cls d H) := takes_of rfl rfl rfl rfl
    have hp : PassesOwn (model (cxOf (L2.CX P w) P w K mg base ["_law_tape_here", "_law_names_here", "_law_turn_here", "_law_found", "_law_wide", "_law_kept", "_law_name", "_law_slips", "_law_turn_by", "_law_way", "_law_step", "_law_one", "_law_other"] "_law_joinings" (defScope s__law_joinings) f cdv A outer s H E).prog (cxOf (L2.CX P w) P w K mg base ["_law_tape_here", "_law_names_here", "_law_turn_here", "_law_found", "_law_wide", "_law_kept", "_law_name", "_law_slips", "_law_turn_by", "_law_way", "_law_step", "_law_one", "_law_other"] "_law_joinings" (defScope s__law_joinings) f cdv A outer s H E).w) (cxOf (L2.CX P w) P w K mg base ["_law_tape_here", "_law_names_here", "_law_turn_here", "_law_found", "_law_wide", "_law_kept", "_law_name", "_law_slips", "_law_turn_by", "_law_way", "_law_step", "_law_one", "_law_other"] "_law_joinings" (defScope s__law_joinings) f cdv A outer s H E).A (cxOf (L2.CX P w) P w K mg base ["_law_tape_here", "_law_names_here", "_law_turn_here", "_law_found", "_law_wide", "_law_kept", "_law_name", "_law_slips", "_law_turn_by", "_law_way", "_law_step", "_law_one", "_law_other"] "_law_joinings" (defScope s__law_joinings) f cdv A outer s H E).env (cxOf (L2.CX P w) P w K mg base ["_law_tape_here", "_law_names_here", "_law_turn_here", "_law_found", "_law_wide", "_law_kept", "_law_name", "_law_slips", "_law_turn_by", "_law_way", "_law_step", "_law_one", "_law_other"] "_law_joinings" (defScope s__law_joinings) f cdv A outer s H E).xe := passes_of rfl
    have D__law_draw := (d__law_draw).mono (k := 1) (by omega)
    refine' (ss_cons (ss_setI hN (so_lst sao_nil) (by rfl) (by first | exact .inl rfl | exact .inr rfl) (by rfl) (by first | exact .inl rfl | exact .inr rfl | assumption)) (ss_cons (ss_setI hN (SB.imm (sb_idx hr (SO.sb (so_lst (sao_cons so_int (sao_cons so_int (sao_cons so_int (sao_cons so_int (sao_cons so_int (sao_cons (so_bin od_mulI (SO.sb so_int) (SO.sb (so_bin od_pow (SO.sb so_int) (SO.sb so_int) (by decide))) (by decide)) sao_nil (by rfl)) (by rfl)) (by rfl)) (by rfl)) (by rfl)) (by rfl)))) (SO.sb (so_call D__law_draw hr tk (sri_ioI (sri_ro (SO.sb so_int) sri_nil (by decide) (by rfl)) (by rfl) (by first | exact Or.inl rfl | exact Or.inr (Or.inl rfl) | exact Or.inr (Or.inr rfl)) (by decide) (by decide) (by rfl)) (by rfl) (by decide) (by rfl) (by rfl))) (by exact fun _ _ => rfl) (by decide))) (by rfl) (by first | exact .inl rfl | exact .inr rfl) (by rfl) (by first | exact .inl rfl | exact .inr rfl | assumption)) (ss_cons (ss_setI hN (so_callTy (od_dictG rfl) (by rfl) z_dict (by rfl) (sa_cons (SO.sb (so_lc (own := [("_law_name", 6)]) [6] rfl hN (si_any (sb_var 1)) (blkOk_by (N := ["_law_tape_here", "_law_names_here", "_law_turn_here", "_law_found", "_law_wide", "_law_kept", "_law_name", "_law_slips", "_law_turn_by", "_law_way", "_law_step", "_law_one", "_law_other"]) (sc := defScope s__law_joinings) (own := [("_law_name", 6)]) (by decide +kernel)) (fun _ _ _ _ _ => (sg_name 6 hN)) (fun _ _ _ _ _ => sts_nil) (fun _ _ _ _ _ => (so_tup (sao_cons (so_get 6) (sao_cons (so_bin od_sub (SO.sb (so_call D__law_draw hr takes0 (sri_ioI (sri_ro (SO.sb (so_bin od_mulI (SO.sb so_int) (sb_var 4) (by decide))) sri_nil (by decide) (by rfl)) (by rfl) (by first | exact Or.inl rfl | exact Or.inr (Or.inl rfl) | exact Or.inr (Or.inr rfl)) (by decide) (by decide) (by rfl)) (by rfl) (by decide) (by rfl) (by rfl))) (sb_var 4) (by decide)) sao_nil (by rfl)) (by rfl)))) rfl (by decide) (by decide) (by intro _; rfl))) sa_nil (by decide) (by rfl)) (by decide) (by decide) (by rfl) (by rfl)) (by rfl) (by first | exact .inl rfl | exact .inr rfl) (by rfl) (by first | exact .inl rfl | exact .inr rfl | assumption)) (ss_cons (ss_setI hN (SB.imm (sb_idx hr (SO.sb (so_lst (sao_cons so_int (sao_cons so_int (sao_cons so_int (sao_cons so_int sao_nil (by rfl)) (by rfl)) (by rfl)) (by rfl)))) (SO.sb (so_call D__law_draw hr tk (sri_ioI (sri_ro (SO.sb so_int) sri_nil (by decide) (by rfl)) (by rfl) (by first | exact Or.inl rfl | exact Or.inr (Or.inl rfl) | exact Or.inr (Or.inr rfl)) (by decide) (by decide) (by rfl)) (by rfl) (by decide) (by rfl) (by rfl))) (by exact fun _ _ => rfl) (by decide))) (by rfl) (by first | exact .inl rfl | exact .inr rfl) (by rfl) (by first | exact .inl rfl | exact .inr rfl | assumption)) (ss_cons (ss_for hp rfl (si_range1 (by rfl) z_range (sa_cons (SO.sb (so_call D__law_draw hr tk (sri_ioI (sri_ro (SO.sb (so_bin od_add (SO.sb (so_bin od_mulI (SO.sb so_int) (SO.sb (so_callB od_len (by rfl) z_len (by rfl) (sa_cons (sb_var 1) sa_nil (by decide) (by rfl)) (by decide) (by decide) (by rfl) (by rfl))) (by decide))) (SO.sb so_int) (by decide))) sri_nil (by decide) (by rfl)) (by rfl) (by first | exact Or.inl rfl | exact Or.inr (Or.inl rfl) | exact Or.inr (Or.inr rfl)) (by decide) (by decide) (by rfl)) (by rfl) (by decide) (by rfl) (by rfl))) sa_nil (by decide) (by rfl)) (by rfl)) (sg_name 8 hN) (ss_cons (ss_parI rfl hN (sao_cons (SB.imm (sb_idx hr (sb_var 1) (SO.sb (so_call D__law_draw hr tk (sri_ioI (sri_ro (SO.sb (so_callB od_len (by rfl) z_len (by rfl) (sa_cons (sb_var 1) sa_nil (by decide) (by rfl)) (by decide) (by decide) (by rfl) (by rfl))) sri_nil (by decide) (by rfl)) (by rfl) (by first | exact Or.inl rfl | exact Or.inr (Or.inl rfl) | exact Or.inr (Or.inr rfl)) (by decide) (by decide) (by rfl)) (by rfl) (by decide) (by rfl) (by rfl))) (by exact fun _ _ => rfl) (by decide))) (sao_cons (SB.imm (sb_idx hr (sb_var 1) (SO.sb (so_call D__law_draw hr tk (sri_ioI (sri_ro (SO.sb (so_callB od_len (by rfl) z_len (by rfl) (sa_cons (sb_var 1) sa_nil (by decide) (by rfl)) (by decide) (by decide) (by rfl) (by rfl))) sri_nil (by decide) (by rfl)) (by rfl) (by first | exact Or.inl rfl | exact Or.inr (Or.inl rfl) | exact Or.inr (Or.inr rfl)) (by decide) (by decide) (by rfl)) (by rfl) (by decide) (by rfl) (by rfl))) (by exact fun _ _ => rfl) (by decide))) sao_nil (by rfl)) (by rfl)) (by rfl) (by rfl) (by decide) (by rfl) (by rfl) (by rfl) (by rfl)) (ss_cons (ss_setI hN (so_call D__law_draw hr tk (sri_ioI (sri_ro (SO.sb so_int) sri_nil (by decide) (by rfl)) (by rfl) (by first | exact Or.inl rfl | exact Or.inr (Or.inl rfl) | exact Or.inr (Or.inr rfl)) (by decide) (by decide) (by rfl)) (by rfl) (by decide) (by rfl) (by rfl)) (by rfl) (by first | exact .inl rfl | exact .inr rfl) (by rfl) (by first | exact .inl rfl | exact .inr rfl | assumption)) (ss_cons (ss_if (st_cmpD (od_eq hr) (sb_var 9) (SO.sb so_int) (by first | exact nomark _ | rfl) (by decide)) (ss_one (ss_setI hN (so_get 11) (by rfl) (by first | exact .inl rfl | exact .inr rfl) (by rfl) (by first | exact .inl rfl | exact .inr rfl | assumption))) ss_nil) (ss_cons (ss_if (SW.st (sw_and (st_cmpD (od_eq hr) (sb_var 9) (SO.sb so_int) (by first | exact nomark _ | rfl) (by decide)) (sw_and1 (st_cmpD (od_ne hr) (sb_var 3) (SO.sb (so_lst sao_nil)) (by first | exact nomark _ | rfl) (by decide))))) (ss_one (ss_asg (so_slice (sb_idx hr (sb_var 3) (SO.sb (so_call D__law_draw hr tk (sri_ioI (sri_ro (SO.sb (so_callB od_len (by rfl) z_len (by rfl) (sa_cons (sb_var 3) sa_nil (by decide) (by rfl)) (by decide) (by decide) (by rfl) (by rfl))) sri_nil (by decide) (by rfl)) (by rfl) (by first | exact Or.inl rfl | exact Or.inr (Or.inl rfl) | exact Or.inr (Or.inr rfl)) (by decide) (by decide) (by rfl)) (by rfl) (by decide) (by rfl) (by rfl))) (by exact fun _ _ => rfl) (by decide)) sp_no (sp_at (SO.sb so_int)) (by decide)) (sg_tup rfl (sgs_cons (sg_name 11 hN) (sgs_cons (sg_name 12 hN) sgs_nil (by rfl)) (by rfl)) (by rfl)) (by rfl) (by rfl) (by rfl))) ss_nil) (ss_cons (ss_if (SW.st (sw_and (st_cmpD (od_eq hr) (sb_var 9) (SO.sb so_int) (by first | exact nomark _ | rfl) (by decide)) (sw_and1 (st_cmpD (od_ne hr) (sb_var 3) (SO.sb (so_lst sao_nil)) (by first | exact nomark _ | rfl) (by decide))))) (ss_one (ss_asg (so_slice (sb_idx hr (sb_var 3) (SO.sb (so_call D__law_draw hr tk (sri_ioI (sri_ro (SO.sb (so_callB od_len (by rfl) z_len (by rfl) (sa_cons (sb_var 3) sa_nil (by decide) (by rfl)) (by decide) (by decide) (by rfl) (by rfl))) sri_nil (by decide) (by rfl)) (by rfl) (by first | exact Or.inl rfl | exact Or.inr (Or.inl rfl) | exact Or.inr (Or.inr rfl)) (by decide) (by decide) (by rfl)) (by rfl) (by decide) (by rfl) (by rfl))) (by exact fun _ _ => rfl) (by decide)) sp_no (sp_at (SO.sb so_int)) (by decide)) (sg_tup rfl (sgs_cons (sg_name 12 hN) (sgs_cons (sg_name 11 hN) sgs_nil (by rfl)) (by rfl)) (by rfl)) (by rfl) (by rfl) (by rfl))) ss_nil) (ss_cons (ss_setI hN (so_bin od_add (SO.sb (so_bin od_sub (sb_idx hr (sb_var 5) (sb_var 12) (by exact fun _ _ => rfl) (by decide)) (sb_idx hr (sb_var 5) (sb_var 11) (by exact fun _ _ => rfl) (by decide)) (by decide))) (SO.sb (so_bin od_mulI (sb_var 2) (SO.sb (so_bin od_sub (SO.sb (so_call D__law_draw hr tk (sri_ioI (sri_ro (SO.sb so_int) sri_nil (by decide) (by rfl)) (by rfl) (by first | exact Or.inl rfl | exact Or.inr (Or.inl rfl) | exact Or.inr (Or.inr rfl)) (by decide) (by decide) (by rfl)) (by rfl) (by decide) (by rfl) (by rfl))) (SO.sb so_int) (by decide))) (by decide))) (by decide)) (by rfl) (by first | exact .inl rfl | exact .inr rfl) (by rfl) (by first | exact .inl rfl | exact .inr rfl | assumption)) (ss_cons (ss_if (SW.st (sw_and (st_cmpD (od_gtG hr) (sb_var 7) (SO.sb so_int) (by first | exact nomark _ | rfl) (by decide)) (sw_and1 (st_cmpD (od_eq hr) (SO.sb (so_call D__law_draw hr tk (sri_ioI (sri_ro (sb_var 7) sri_nil (by decide) (by rfl)) (by rfl) (by first | exact Or.inl rfl | exact Or.inr (Or.inl rfl) | exact Or.inr (Or.inr rfl)) (by decide) (by decide) (by rfl)) (by rfl) (by decide) (by rfl) (by rfl))) (SO.sb so_int) (by first | exact nomark _ | rfl) (by decide))))) (ss_one (ss_setI hN (so_bin od_add (sb_var 10) (sb_idx hr (SO.sb (so_lst (sao_cons so_int (sao_cons (so_neg (SO.sb so_int)) (sao_cons so_int (sao_cons (so_bin od_pow (SO.sb so_int) (SO.sb so_int) (by decide)) sao_nil (by rfl)) (by rfl)) (by rfl)) (by rfl)))) (SO.sb (so_call D__law_draw hr tk (sri_ioI (sri_ro (SO.sb so_int) sri_nil (by decide) (by rfl)) (by rfl) (by first | exact Or.inl rfl | exact Or.inr (Or.inl rfl) | exact Or.inr (Or.inr rfl)) (by decide) (by decide) (by rfl)) (by rfl) (by decide) (by rfl) (by rfl))) (by exact fun _ _ => rfl) (by decide)) (by decide)) (by rfl) (by first | exact .inl rfl | exact .inr rfl) (by rfl) (by first | exact .inl rfl | exact .inr rfl | assumption))) ss_nil) (ss_one (ss_expr (SO.sb (so_mutA (sl_var 3) (sao_cons (so_tup (sao_cons (so_get 11) (sao_cons (so_get 12) (sao_cons (so_get 10) sao_nil (by rfl)) (by rfl)) (by rfl))) sao_nil (by rfl)) (by decide) (by rfl) (by rfl) (by rfl) (by rfl) (by rfl))) (by rfl)))))))))) (by decide) (by intro _; rfl)) (ss_one (ss_ret (so_get 3))))))))
  case hv => decide
/-! #### _law_rows -/
abbrev s__law_rows : Stmt := top 9
theorem sc__law_rows : FnScope ["_law_tape_here", "_law_names_here", "_law_turn_here", "_law_found", "_law_one", "_law_other", "_law_step", "_law_begin", "_law_end"] ["_law_tape_here", "_law_names_here", "_law_turn_here"] (defScope s__law_rows) := ⟨rfl, rfl, rfl, by decide +kernel, rfl, by decide +kernel, by decide +kernel⟩
def l__law_rows_1 : CS := (sSeq (sAsg (cCall φ__law_draw (aOw (cMv 0) (some 0) (aRo (cK (.int 10)) aNil))) (gSet 7)) (sSeq (sIf (tcAnd (cTt (c2 pNe (cVar 3) (cLst cNil))) (cTt (c2 pEq (cCall φ__law_draw (aOw (cMv 0) (some 0) (aRo (cK (.int 3)) aNil))) (cK (.int 0))))) (sAsg (cImm (cIdx (cIdx (cVar 3) (cCall φ__law_draw (aOw (cMv 0) (some 0) (aRo (cL pLen (cCons (cVar 3) cNil)) aNil)))) (c2 pAdd (cK (.int 3)) (cCall φ__law_draw (aOw (cMv 0) (some 0) (aRo (cK (.int 2)) aNil)))))) (gSet 7)) sNil) (sSeq (sAsg (c2 pAdd (cVar 7) (cIdx (cLst (cCons (c2 pAdd (cK (.int 1)) (cCall φ__law_draw (aOw (cMv 0) (some 0) (aRo (cK (.int 6)) aNil)))) (cCons (c2 pAdd (cK (.int 1)) (cCall φ__law_draw (aOw (cMv 0) (some 0) (aRo (cK (.int 6)) aNil)))) (cCons (cK (.int 1)) (cCons (c2 pPow (cK (.int 10)) (cK (.int 7))) cNil))))) (cCall φ__law_draw (aOw (cMv 0) (some 0) (aRo (cK (.int 4)) aNil))))) (gSet 8)) (sSeq (sIf (tcAnd (cTt (c2 pNe (cVar 3) (cLst cNil))) (cTt (c2 pEq (cCall φ__law_draw (aOw (cMv 0) (some 0) (aRo (cK (.int 4)) aNil))) (cK (.int 0))))) (sAsg (cL pMaxG (cCons (c2 pAdd (cVar 7) (cK (.int 1))) (cCons (cIdx (cIdx (cVar 3) (cCall φ__law_draw (aOw (cMv 0) (some 0) (aRo (cL pLen (cCons (cVar 3) cNil)) aNil)))) (cK (.int 4))) cNil))) (gSet 8)) sNil) (sExpr (cMut 3 kdL mAppend (lVar 3) (cCons (cTup (cCons (cGet 4) (cCons (cGet 5) (cCons (cGet 6) (cCons (cGet 7) (cCons (cGet 8) cNil)))))) cNil)))))))
def b__law_rows : CS := (sSeq (sAsg (cLst cNil) (gSet 3)) (sSeq (sFor (iAnyD (cCall φ__law_joinings (aOw (cMv 0) (some 0) (aRo (cVar 1) (aRo (cVar 2) aNil))))) (gTupD 3 (gConsD (gSet 4) (gConsD (gSet 5) (gConsD (gSet 6) gNilD)))) l__law_rows_1) (sRet (cGet 3))))
def φ__law_rows : List D → FR := fnRun 9 [true, false, false] b__law_rows
theorem ok__law_rows {f : Addr} {fd : FuncData} (F : Fun K "_law_rows" "_law_rows" s__law_rows f fd) (z_len : mg "len" = none) (z_max : mg "max" = none) (d__law_joinings : Fd P w K mg base 2 "_law_joinings" ["_law_tape_here", "_law_names_here", "_law_turn_here"] [true, false, false] φ__law_joinings) (d__law_draw : Fd P w K mg base 1 "_law_draw" ["_law_tape_here", "_law_many"] [true, false] φ__law_draw) : FnOk P w K mg base (L2.CX P w) 3 f fd ["_law_tape_here", "_law_names_here", "_law_turn_here"] (spF K mg [true, false, false] φ__law_rows) := by
  refine' fn_ok (M := _) (Vs := _) F sc__law_rows rfl ?hv fun cdv A outer s H E hr => ?hb
  case hb =>
    have hr : Room 2 (cxOf (L2.CX P w) P w K mg base ["_law_tape_here", "_law_names_here", "_law_turn_here", "_law_found", "_law_one", "_law_other", "_law_step", "_law_begin", "_law_end"] "_law_rows" (defScope s__law_rows) f cdv A outer s H E).A := hr
    have hN : (cxOf (L2.CX P w) P w K mg base ["_law_tape_here", "_law_names_here", "_law_turn_here", "_law_found", "_law_one", "_law_other", "_law_step", "_law_begin", "_law_end"] "_law_rows" (defScope s__law_rows) f cdv A outer s H E).N.Nodup := sc__law_rows.nd
    have tk : Takes (cxOf (L2.CX P w) P w K mg base ["_law_tape_here", "_law_names_here", "_law_turn_here", "_law_found", "_law_one", "_law_other", "_law_step", "_law_begin", "_law_end"] "_law_rows" (defScope s__law_rows) f cdv A outer s H E) (fun cls d _ H => E cls d H) := takes_of rfl rfl rfl rfl
    have hp : PassesOwn (model (cxOf (L2.CX P w) P w K mg base ["_law_tape_here", "_law_names_here", "_law_turn_here", "_law_found", "_law_one", "_law_other", "_law_step", "_law_begin", "_law_end"] "_law_rows" (defScope s__law_rows) f cdv A outer s H E).prog (cxOf (L2.CX P w) P w K mg base ["_law_tape_here", "_law_names_here", "_law_turn_here", "_law_found", "_law_one", "_law_other", "_law_step", "_law_begin", "_law_end"] "_law_rows" (defScope s__law_rows) f cdv A outer s H E).w) (cxOf (L2.CX P w) P w K mg base ["_law_tape_here", "_law_names_here", "_law_turn_here", "_law_found", "_law_one", "_law_other", "_law_step", "_law_begin", "_law_end"] "_law_rows" (defScope s__law_rows) f cdv A outer s H E).A (cxOf (L2.CX P w) P w K mg base ["_law_tape_here", "_law_names_here", "_law_turn_here", "_law_found", "_law_one", "_law_other", "_law_step", "_law_begin", "_law_end"] "_law_rows" (defScope s__law_rows) f cdv A outer s H E).env (cxOf (L2.CX P w) P w K mg base ["_law_tape_here", "_law_names_here", "_law_turn_here", "_law_found", "_law_one", "_law_other", "_law_step", "_law_begin", "_law_end"] "_law_rows" (defScope s__law_rows) f cdv A outer s H E).xe := passes_of rfl
    have D__law_joinings := (d__law_joinings).mono (k := 2) (by omega)
    have D__law_draw := (d__law_draw).mono (k := 2) (by omega)
    refine' (ss_cons (ss_setI hN (so_lst sao_nil) (by rfl) (by first | exact .inl rfl | exact .inr rfl) (by rfl) (by first | exact .inl rfl | exact .inr rfl | assumption)) (ss_cons (ss_for hp rfl (si_any (SO.sb (so_call D__law_joinings hr tk (sri_ioI (sri_ro (sb_var 1) (sri_ro (sb_var 2) sri_nil (by decide) (by rfl)) (by decide) (by rfl)) (by rfl) (by first | exact Or.inl rfl | exact Or.inr (Or.inl rfl) | exact Or.inr (Or.inr rfl)) (by decide) (by decide) (by rfl)) (by rfl) (by decide) (by rfl) (by rfl)))) (sg_tup rfl (sgs_cons (sg_name 4 hN) (sgs_cons (sg_name 5 hN) (sgs_cons (sg_name 6 hN) sgs_nil (by rfl)) (by rfl)) (by rfl)) (by rfl)) (ss_cons (ss_setI hN (so_call D__law_draw hr tk (sri_ioI (sri_ro (SO.sb so_int) sri_nil (by decide) (by rfl)) (by rfl) (by first | exact Or.inl rfl | exact Or.inr (Or.inl rfl) | exact Or.inr (Or.inr rfl)) (by decide) (by decide) (by rfl)) (by rfl) (by decide) (by rfl) (by rfl)) (by rfl) (by first | exact .inl rfl | exact .inr rfl) (by rfl) (by first | exact .inl rfl | exact .inr rfl | assumption)) (ss_cons (ss_if (SW.st (sw_and (st_cmpD (od_ne hr) (sb_var 3) (SO.sb (so_lst sao_nil)) (by first | exact nomark _ | rfl) (by decide)) (sw_and1 (st_cmpD (od_eq hr) (SO.sb (so_call D__law_draw hr tk (sri_ioI (sri_ro (SO.sb so_int) sri_nil (by decide) (by rfl)) (by rfl) (by first | exact Or.inl rfl | exact Or.inr (Or.inl rfl) | exact Or.inr (Or.inr rfl)) (by decide) (by decide) (by rfl)) (by rfl) (by decide) (by rfl) (by rfl))) (SO.sb so_int) (by first | exact nomark _ | rfl) (by decide))))) (ss_one (ss_setI hN (SB.imm (sb_idx hr (sb_idx hr (sb_var 3) (SO.sb (so_call D__law_draw hr tk (sri_ioI (sri_ro (SO.sb (so_callB od_len (by rfl) z_len (by rfl) (sa_cons (sb_var 3) sa_nil (by decide) (by rfl)) (by decide) (by decide) (by rfl) (by rfl))) sri_nil (by decide) (by rfl)) (by rfl) (by first | exact Or.inl rfl | exact Or.inr (Or.inl rfl) | exact Or.inr (Or.inr rfl)) (by decide) (by decide) (by rfl)) (by rfl) (by decide) (by rfl) (by rfl))) (by exact fun _ _ => rfl) (by decide)) (SO.sb (so_bin od_add (SO.sb so_int) (SO.sb (so_call D__law_draw hr tk (sri_ioI (sri_ro (SO.sb so_int) sri_nil (by decide) (by rfl)) (by rfl) (by first | exact Or.inl rfl | exact Or.inr (Or.inl rfl) | exact Or.inr (Or.inr rfl)) (by decide) (by decide) (by rfl)) (by rfl) (by decide) (by rfl) (by rfl))) (by decide))) (by exact fun _ _ => rfl) (by decide))) (by rfl) (by first | exact .inl rfl | exact .inr rfl) (by rfl) (by first | exact .inl rfl | exact .inr rfl | assumption))) ss_nil) (ss_cons (ss_setI hN (so_bin od_add (sb_var 7) (sb_idx hr (SO.sb (so_lst (sao_cons (so_bin od_add (SO.sb so_int) (SO.sb (so_call D__law_draw hr tk (sri_ioI (sri_ro (SO.sb so_int) sri_nil (by decide) (by rfl)) (by rfl) (by first | exact Or.inl rfl | exact Or.inr (Or.inl rfl) | exact Or.inr (Or.inr rfl)) (by decide) (by decide) (by rfl)) (by rfl) (by decide) (by rfl) (by rfl))) (by decide)) (sao_cons (so_bin od_add (SO.sb so_int) (SO.sb (so_call D__law_draw hr tk (sri_ioI (sri_ro (SO.sb so_int) sri_nil (by decide) (by rfl)) (by rfl) (by first | exact Or.inl rfl | exact Or.inr (Or.inl rfl) | exact Or.inr (Or.inr rfl)) (by decide) (by decide) (by rfl)) (by rfl) (by decide) (by rfl) (by rfl))) (by decide)) (sao_cons so_int (sao_cons (so_bin od_pow (SO.sb so_int) (SO.sb so_int) (by decide)) sao_nil (by rfl)) (by rfl)) (by rfl)) (by rfl)))) (SO.sb (so_call D__law_draw hr tk (sri_ioI (sri_ro (SO.sb so_int) sri_nil (by decide) (by rfl)) (by rfl) (by first | exact Or.inl rfl | exact Or.inr (Or.inl rfl) | exact Or.inr (Or.inr rfl)) (by decide) (by decide) (by rfl)) (by rfl) (by decide) (by rfl) (by rfl))) (by exact fun _ _ => rfl) (by decide)) (by decide)) (by rfl) (by first | exact .inl rfl | exact .inr rfl) (by rfl) (by first | exact .inl rfl | exact .inr rfl | assumption)) (ss_cons (ss_if (SW.st (sw_and (st_cmpD (od_ne hr) (sb_var 3) (SO.sb (so_lst sao_nil)) (by first | exact nomark _ | rfl) (by decide)) (sw_and1 (st_cmpD (od_eq hr) (SO.sb (so_call D__law_draw hr tk (sri_ioI (sri_ro (SO.sb so_int) sri_nil (by decide) (by rfl)) (by rfl) (by first | exact Or.inl rfl | exact Or.inr (Or.inl rfl) | exact Or.inr (Or.inr rfl)) (by decide) (by decide) (by rfl)) (by rfl) (by decide) (by rfl) (by rfl))) (SO.sb so_int) (by first | exact nomark _ | rfl) (by decide))))) (ss_one (ss_setI hN (so_callB (od_maxG hr rfl) (by rfl) z_max (by rfl) (sa_cons (SO.sb (so_bin od_add (sb_var 7) (SO.sb so_int) (by decide))) (sa_cons (sb_idx hr (sb_idx hr (sb_var 3) (SO.sb (so_call D__law_draw hr tk (sri_ioI (sri_ro (SO.sb (so_callB od_len (by rfl) z_len (by rfl) (sa_cons (sb_var 3) sa_nil (by decide) (by rfl)) (by decide) (by decide) (by rfl) (by rfl))) sri_nil (by decide) (by rfl)) (by rfl) (by first | exact Or.inl rfl | exact Or.inr (Or.inl rfl) | exact Or.inr (Or.inr rfl)) (by decide) (by decide) (by rfl)) (by rfl) (by decide) (by rfl) (by rfl))) (by exact fun _ _ => rfl) (by decide)) (SO.sb so_int) (by exact fun _ _ => rfl) (by decide)) sa_nil (by decide) (by rfl)) (by decide) (by rfl)) (by decide) (by decide) (by rfl) (by rfl)) (by rfl) (by first | exact .inl rfl | exact .inr rfl) (by rfl) (by first | exact .inl rfl | exact .inr rfl | assumption))) ss_nil) (ss_one (ss_expr (SO.sb (so_mutA (sl_var 3) (sao_cons (so_tup (sao_cons (so_get 4) (sao_cons (so_get 5) (sao_cons (so_get 6) (sao_cons (so_get 7) (sao_cons (so_get 8) sao_nil (by rfl)) (by rfl)) (by rfl)) (by rfl)) (by rfl))) sao_nil (by rfl)) (by decide) (by rfl) (by rfl) (by rfl) (by rfl) (by rfl))) (by rfl))))))) (by decide) (by intro _; rfl)) (ss_one (ss_ret (so_get 3)))))
  case hv => decide
/-! #### _law_times -/
abbrev s__law_times : Stmt := top 11
theorem sc__law_times : FnScope ["_law_rows_here", "_law_some", "_law_row"] ["_law_rows_here"] (defScope s__law_times) := ⟨rfl, rfl, rfl, by decide +kernel, rfl, by decide +kernel, by decide +kernel⟩
def l__law_times_1 : CS := (sSeq (sAsg (c2 pAdd (cVar 1) (cLst (cCons (cImm (cIdx (cVar 2) (cK (.int 3)))) (cCons (cImm (cIdx (cVar 2) (cK (.int 4)))) (cCons (c2 pSub (cIdx (cVar 2) (cK (.int 4))) (cK (.int 1))) (cCons (c2 pAdd (cIdx (cVar 2) (cK (.int 3))) (cK (.int 1))) cNil)))))) (gSet 1)) (sIf (cTt (c2 pGtG (cIdx (cVar 2) (cK (.int 3))) (cK (.int 0)))) (sExpr (cMut 1 kdL mAppend (lVar 1) (cCons (c2 pSub (cIdx (cVar 2) (cK (.int 3))) (cK (.int 1))) cNil))) sNil))
def b__law_times : CS := (sSeq (sAsg (cLst (cCons (cK (.int 0)) cNil)) (gSet 1)) (sSeq (sFor (iAnyD (cVar 0)) (gSet 2) l__law_times_1) (sRet (cSortSet (cVar 1)))))
def φ__law_times : List D → FR := fnRun 3 [false] b__law_times
theorem ok__law_times {f : Addr} {fd : FuncData} (F : Fun K "_law_times" "_law_times" s__law_times f fd) (z_sorted : mg "sorted" = none) (z_set : mg "set" = none) : FnOk P w K mg base (L2.CX P w) 1 f fd ["_law_rows_here"] (spF K mg [false] φ__law_times) := by
  refine' fn_ok (M := _) (Vs := _) F sc__law_times rfl ?hv fun cdv A outer s H E hr => ?hb
  case hb =>
    have hr : Room 0 (cxOf (L2.CX P w) P w K mg base ["_law_rows_here", "_law_some", "_law_row"] "_law_times" (defScope s__law_times) f cdv A outer s H E).A := hr
    have hN : (cxOf (L2.CX P w) P w K mg base ["_law_rows_here", "_law_some", "_law_row"] "_law_times" (defScope s__law_times) f cdv A outer s H E).N.Nodup := sc__law_times.nd
    have tk : Takes (cxOf (L2.CX P w) P w K mg base ["_law_rows_here", "_law_some", "_law_row"] "_law_times" (defScope s__law_times) f cdv A outer s H E) (fun cls d _ H => E cls d H) := takes_of rfl rfl rfl rfl
    have hp : PassesOwn (model (cxOf (L2.CX P w) P w K mg base ["_law_rows_here", "_law_some", "_law_row"] "_law_times" (defScope s__law_times) f cdv A outer s H E).prog (cxOf (L2.CX P w) P w K mg base ["_law_rows_here", "_law_some", "_law_row"] "_law_times" (defScope s__law_times) f cdv A outer s H E).w) (cxOf (L2.CX P w) P w K mg base ["_law_rows_here", "_law_some", "_law_row"] "_law_times" (defScope s__law_times) f cdv A outer s H E).A (cxOf (L2.CX P w) P w K mg base ["_law_rows_here", "_law_some", "_law_row"] "_law_times" (defScope s__law_times) f cdv A outer s H E).env (cxOf (L2.CX P w) P w K mg base ["_law_rows_here", "_law_some", "_law_row"] "_law_times" (defScope s__law_times) f cdv A outer s H E).xe := passes_of rfl
    refine' (ss_cons (ss_setI hN (so_lst (sao_cons so_int sao_nil (by rfl))) (by rfl) (by first | exact .inl rfl | exact .inr rfl) (by rfl) (by first | exact .inl rfl | exact .inr rfl | assumption)) (ss_cons (ss_for hp rfl (si_any (sb_var 0)) (sg_name 2 hN) (ss_cons (ss_setI hN (so_bin od_add (sb_var 1) (SO.sb (so_lst (sao_cons (SB.imm (sb_idx hr (sb_var 2) (SO.sb so_int) (by exact fun _ _ => rfl) (by decide))) (sao_cons (SB.imm (sb_idx hr (sb_var 2) (SO.sb so_int) (by exact fun _ _ => rfl) (by decide))) (sao_cons (so_bin od_sub (sb_idx hr (sb_var 2) (SO.sb so_int) (by exact fun _ _ => rfl) (by decide)) (SO.sb so_int) (by decide)) (sao_cons (so_bin od_add (sb_idx hr (sb_var 2) (SO.sb so_int) (by exact fun _ _ => rfl) (by decide)) (SO.sb so_int) (by decide)) sao_nil (by rfl)) (by rfl)) (by rfl)) (by rfl)))) (by decide)) (by rfl) (by first | exact .inl rfl | exact .inr rfl) (by rfl) (by first | exact .inl rfl | exact .inr rfl | assumption)) (ss_one (ss_if (st_cmpD (od_gtG hr) (sb_idx hr (sb_var 2) (SO.sb so_int) (by exact fun _ _ => rfl) (by decide)) (SO.sb so_int) (by first | exact nomark _ | rfl) (by decide)) (ss_one (ss_expr (SO.sb (so_mutA (sl_var 1) (sao_cons (so_bin od_sub (sb_idx hr (sb_var 2) (SO.sb so_int) (by exact fun _ _ => rfl) (by decide)) (SO.sb so_int) (by decide)) sao_nil (by rfl)) (by decide) (by rfl) (by rfl) (by rfl) (by rfl) (by rfl))) (by rfl))) ss_nil))) (by decide) (by intro _; rfl)) (ss_one (ss_ret (so_sortSet rfl (by rfl) z_sorted (by rfl) z_set (sb_var 1) (by rfl))))))
  case hv => decide
/-! #### _law_at -/
abbrev s__law_at : Stmt := top 10
theorem sc__law_at : FnScope ["_law_rows_here", "_law_time", "_law_numbers", "_law_n"] ["_law_rows_here", "_law_time"] (defScope s__law_at) := ⟨rfl, rfl, rfl, by decide +kernel, rfl, by decide +kernel, by decide +kernel⟩
def b__law_at : CS := (sSeq (sAsg (cLc (iRange1 (cCons (cL pLen (cCons (cVar 0) cNil)) cNil)) [3] (gSet 3) (tcAnd (tcNot (cTt (c2 pLtG (cVar 1) (cIdx (cIdx (cVar 0) (cVar 3)) (cK (.int 3)))))) (cTt (c2 pLtG (cVar 1) (cIdx (cIdx (cVar 0) (cVar 3)) (cK (.int 4)))))) (cGet 3)) (gSet 2)) (sRet (cTup (cLate 2 (cCons (cLc (iAnyD (cVar 2)) [3] (gSet 3) cYes (cSl (cIdx (cVar 0) (cVar 3)) pNo (pAt (cK (.int 3))))) cNil)))))
def φ__law_at : List D → FR := fnRun 4 [false, false] b__law_at
theorem ok__law_at {f : Addr} {fd : FuncData} (F : Fun K "_law_at" "_law_at" s__law_at f fd) (z_len : mg "len" = none) (z_range : mg "range" = none) : FnOk P w K mg base (L2.CX P w) 1 f fd ["_law_rows_here", "_law_time"] (spF K mg [false, false] φ__law_at) := by
  refine' fn_ok (M := _) (Vs := _) F sc__law_at rfl ?hv fun cdv A outer s H E hr => ?hb
  case hb =>
    have hr : Room 0 (cxOf (L2.CX P w) P w K mg base ["_law_rows_here", "_law_time", "_law_numbers", "_law_n"] "_law_at" (defScope s__law_at) f cdv A outer s H E).A := hr
    have hN : (cxOf (L2.CX P w) P w K mg base ["_law_rows_here", "_law_time", "_law_numbers", "_law_n"] "_law_at" (defScope s__law_at) f cdv A outer s H E).N.Nodup := sc__law_at.nd
    have tk : Takes (cxOf (L2.CX P w) P w K mg base ["_law_rows_here", "_law_time", "_law_numbers", "_law_n"] "_law_at" (defScope s__law_at) f cdv A outer s H E) (fun cls d _ H => E cls d H) := takes_of rfl rfl rfl rfl
    have hp : PassesOwn (model (cxOf (L2.CX P w) P w K mg base ["_law_rows_here", "_law_time", "_law_numbers", "_law_n"] "_law_at" (defScope s__law_at) f cdv A outer s H E).prog (cxOf (L2.CX P w) P w K mg base ["_law_rows_here", "_law_time", "_law_numbers", "_law_n"] "_law_at" (defScope s__law_at) f cdv A outer s H E).w) (cxOf (L2.CX P w) P w K mg base ["_law_rows_here", "_law_time", "_law_numbers", "_law_n"] "_law_at" (defScope s__law_at) f cdv A outer s H E).A (cxOf (L2.CX P w) P w K mg base ["_law_rows_here", "_law_time", "_law_numbers", "_law_n"] "_law_at" (defScope s__law_at) f cdv A outer s H E).env (cxOf (L2.CX P w) P w K mg base ["_law_rows_here", "_law_time", "_law_numbers", "_law_n"] "_law_at" (defScope s__law_at) f cdv A outer s H E).xe := passes_of rfl
    refine' (ss_cons (ss_setLc (own := [("_law_n", 3)]) [3] rfl hN (si_range1 (by rfl) z_range (sa_cons (SO.sb (so_callB od_len (by rfl) z_len (by rfl) (sa_cons (sb_var 0) sa_nil (by decide) (by rfl)) (by decide) (by decide) (by rfl) (by rfl))) sa_nil (by decide) (by rfl)) (by rfl)) (blkOk_by (N := ["_law_rows_here", "_law_time", "_law_numbers", "_law_n"]) (sc := defScope s__law_at) (own := [("_law_n", 3)]) (by decide +kernel)) (fun _ _ _ _ _ => (sg_name 3 hN)) (fun _ _ _ _ _ => (sts_one (SW.st (sw_and (st_not (st_cmpD (od_ltG hr) (sb_var 1) (sb_idx hr (sb_idx hr (sb_var 0) (sb_var 3) (by exact fun _ _ => rfl) (by decide)) (SO.sb so_int) (by exact fun _ _ => rfl) (by decide)) (by first | exact nomark _ | rfl) (by decide))) (sw_and1 (st_cmpD (od_ltG hr) (sb_var 1) (sb_idx hr (sb_idx hr (sb_var 0) (sb_var 3) (by exact fun _ _ => rfl) (by decide)) (SO.sb so_int) (by exact fun _ _ => rfl) (by decide)) (by first | exact nomark _ | rfl) (by decide))))))) (fun _ _ _ _ _ => (so_get 3)) rfl (by decide) (by decide) (by intro _; rfl) (by rfl) (by rfl) (by rfl)) (ss_one (ss_ret (so_tup (sao_late 2 (sao_cons (so_lc (own := [("_law_n", 3)]) [3] rfl hN (si_any (sb_var 2)) (blkOk_by (N := ["_law_rows_here", "_law_time", "_law_numbers", "_law_n"]) (sc := defScope s__law_at) (own := [("_law_n", 3)]) (by decide +kernel)) (fun _ _ _ _ _ => (sg_name 3 hN)) (fun _ _ _ _ _ => sts_nil) (fun _ _ _ _ _ => (so_slice (sb_idx hr (sb_var 0) (sb_var 3) (by exact fun _ _ => rfl) (by decide)) sp_no (sp_at (SO.sb so_int)) (by decide))) rfl (by decide) (by decide) (by intro _; rfl)) sao_nil (by rfl)) (by decide) (by rfl) (by first | exact Or.inl rfl | exact Or.inr (Or.inl rfl) | exact Or.inr (Or.inr rfl)) (by decide) (by decide) (by rfl))))))
  case hv => decide
/-! #### standing_at -/
abbrev s_standing_at : Stmt := top 1
theorem sc_standing_at : FnScope ["rows", "time", "number", "row"] ["rows", "time"] (defScope s_standing_at) := ⟨rfl, rfl, rfl, by decide +kernel, rfl, by decide +kernel, by decide +kernel⟩
def b_standing_at : CS := (sRet (cLc (iEnumG (cVar 0)) [2, 3] (gTupD 2 (gConsD (gSet 2) (gConsD (gSet 3) gNilD))) (cTt (cChain pLeG pLtG (cIdx (cVar 3) (cK (.int 3))) (cVar 1) (cIdx (cVar 3) (cK (.int 4))))) (cGet 2)))
def φ_standing_at : List D → FR := fnRun 4 [false, false] b_standing_at
theorem ok_standing_at {f : Addr} {fd : FuncData} (F : Fun K "standing_at" "standing_at" s_standing_at f fd) (z_enumerate : mg "enumerate" = none) : FnOk P w K mg base (L2.CX P w) 1 f fd ["rows", "time"] (spF K mg [false, false] φ_standing_at) := by
  refine' fn_ok (M := _) (Vs := _) F sc_standing_at rfl ?hv fun cdv A outer s H E hr => ?hb
  case hb =>
    have hr : Room 0 (cxOf (L2.CX P w) P w K mg base ["rows", "time", "number", "row"] "standing_at" (defScope s_standing_at) f cdv A outer s H E).A := hr
    have hN : (cxOf (L2.CX P w) P w K mg base ["rows", "time", "number", "row"] "standing_at" (defScope s_standing_at) f cdv A outer s H E).N.Nodup := sc_standing_at.nd
    have tk : Takes (cxOf (L2.CX P w) P w K mg base ["rows", "time", "number", "row"] "standing_at" (defScope s_standing_at) f cdv A outer s H E) (fun cls d _ H => E cls d H) := takes_of rfl rfl rfl rfl
    have hp : PassesOwn (model (cxOf (L2.CX P w) P w K mg base ["rows", "time", "number", "row"] "standing_at" (defScope s_standing_at) f cdv A outer s H E).prog (cxOf (L2.CX P w) P w K mg base ["rows", "time", "number", "row"] "standing_at" (defScope s_standing_at) f cdv A outer s H E).w) (cxOf (L2.CX P w) P w K mg base ["rows", "time", "number", "row"] "standing_at" (defScope s_standing_at) f cdv A outer s H E).A (cxOf (L2.CX P w) P w K mg base ["rows", "time", "number", "row"] "standing_at" (defScope s_standing_at) f cdv A outer s H E).env (cxOf (L2.CX P w) P w K mg base ["rows", "time", "number", "row"] "standing_at" (defScope s_standing_at) f cdv A outer s H E).xe := passes_of rfl
    refine' (ss_one (ss_ret (so_lc (own := [("number", 2), ("row", 3)]) [2, 3] rfl hN (si_enumG (by rfl) z_enumerate (sb_var 0) (by rfl)) (blkOk_by (N := ["rows", "time", "number", "row"]) (sc := defScope s_standing_at) (own := [("number", 2), ("row", 3)]) (by decide +kernel)) (fun _ _ _ _ _ => (sg_tup rfl (sgs_cons (sg_name 2 hN) (sgs_cons (sg_name 3 hN) sgs_nil (by rfl)) (by rfl)) (by rfl))) (fun _ _ _ _ _ => (sts_one (st_chain (od_leG hr) (od_ltG hr) (sb_idx hr (sb_var 3) (SO.sb so_int) (by exact fun _ _ => rfl) (by decide)) (sb_var 1) (sb_idx hr (sb_var 3) (SO.sb so_int) (by exact fun _ _ => rfl) (by decide)) (by decide) (by decide) (by with_unfolding_all rfl)))) (fun _ _ _ _ _ => (so_get 2)) rfl (by decide) (by decide) (by intro _; rfl))))
  case hv => decide
/-! #### _law_same -/
abbrev s__law_same : Stmt := top 5
theorem sc__law_same : FnScope ["_law_found", "_law_due", "_law_one", "_law_other"] ["_law_found", "_law_due"] (defScope s__law_same) := ⟨rfl, rfl, rfl, by decide +kernel, rfl, by decide +kernel, by decide +kernel⟩
def b__law_same (φr : List D → FR) : CS := (sSeq (sIf (cTt (cL pIsi (cCons (cVar 1) (cCons (cTup (cCons (cK (.ty "list")) (cCons (cK (.ty "tuple")) cNil))) cNil)))) (sSeq (sIf (tcOr (tcNot (cTt (cL pIsi (cCons (cVar 0) (cCons (cTup (cCons (cK (.ty "list")) (cCons (cK (.ty "tuple")) cNil))) cNil))))) (cTt (c2 pNe (cL pIsi (cCons (cVar 0) (cCons (cK (.ty "list")) cNil))) (cL pIsi (cCons (cVar 1) (cCons (cK (.ty "list")) cNil)))))) (sRet (cK (.bl false))) sNil) (sRet (cAnd (c2 pEq (cL pLen (cCons (cVar 0) cNil)) (cL pLen (cCons (cVar 1) cNil))) (cL pAll (cCons (cLc (iZipD (cCons (cVar 0) (cCons (cVar 1) cNil))) [2, 3] (gTupD 2 (gConsD (gSet 2) (gConsD (gSet 3) gNilD))) cYes (cCall φr (aRo (cVar 2) (aRo (cVar 3) aNil)))) cNil))))) sNil) (sSeq (sIf (tcOr (cTt (c2 pIs (cVar 1) (cK .non))) (cTt (cL pIsi (cCons (cVar 1) (cCons (cK (.ty "str")) cNil))))) (sRet (cAnd (c2 pEq (cVar 0) (cVar 1)) (c2 pEq (cL pIsi (cCons (cVar 0) (cCons (cK (.ty "str")) cNil))) (cL pIsi (cCons (cVar 1) (cCons (cK (.ty "str")) cNil)))))) sNil) (sRet (cAnd (cL pIsi (cCons (cVar 0) (cCons (cK (.ty "int")) cNil))) (cAnd (c2 pEq (cL pIsi (cCons (cVar 0) (cCons (cK (.ty "bool")) cNil))) (cL pIsi (cCons (cVar 1) (cCons (cK (.ty "bool")) cNil)))) (c2 pEq (cVar 0) (cVar 1)))))))
def φ__law_same : Nat → List D → FR
  | 0 => fun _ => .err
  | n + 1 => fnRun 4 [false, false] (b__law_same (φ__law_same n))
theorem okr__law_same {f : Addr} {fd : FuncData} (F : Fun K "_law_same" "_law_same" s__law_same f fd) (hm : mg "_law_same" = some (.ref f)) (hb : Binds K fd ["_law_found", "_law_due"] []) (z_list : mg "list" = none) (z_tuple : mg "tuple" = none) (z_isinstance : mg "isinstance" = none) (z_len : mg "len" = none) (z_zip : mg "zip" = none) (z_all : mg "all" = none) (z_str : mg "str" = none) (z_int : mg "int" = none) (z_bool : mg "bool" = none) : ∀ n : Nat, FnOk P w K mg base (L2.CX P w) (n + 0 + 1) f fd ["_law_found", "_law_due"] (spF K mg [false, false] (φ__law_same n))
  | 0 => fn_err F sc__law_same rfl
  | n + 1 => by
    have D__law_same : Fd P w K mg base (n + 0 + 1) "_law_same" ["_law_found", "_law_due"] [false, false] (φ__law_same n) := fd_mk F hm hb (okr__law_same F hm hb z_list z_tuple z_isinstance z_len z_zip z_all z_str z_int z_bool n)
    refine' fn_ok (M := _) (Vs := _) F sc__law_same rfl ?hv fun cdv A outer s H E hr => ?hb
    case hb =>
      have hr : Room (n + 0 + 1) (cxOf (L2.CX P w) P w K mg base ["_law_found", "_law_due", "_law_one", "_law_other"] "_law_same" (defScope s__law_same) f cdv A outer s H E).A := by have := hr; rw [show n + 1 + 0 = n + 0 + 1 by omega] at this; exact this
      have hN : (cxOf (L2.CX P w) P w K mg base ["_law_found", "_law_due", "_law_one", "_law_other"] "_law_same" (defScope s__law_same) f cdv A outer s H E).N.Nodup := sc__law_same.nd
      have tk : Takes (cxOf (L2.CX P w) P w K mg base ["_law_found", "_law_due", "_law_one", "_law_other"] "_law_same" (defScope s__law_same) f cdv A outer s H E) (fun cls d _ H => E cls d H) := takes_of rfl rfl rfl rfl
      have hp : PassesOwn (model (cxOf (L2.CX P w) P w K mg base ["_law_found", "_law_due", "_law_one", "_law_other"] "_law_same" (defScope s__law_same) f cdv A outer s H E).prog (cxOf (L2.CX P w) P w K mg base ["_law_found", "_law_due", "_law_one", "_law_other"] "_law_same" (defScope s__law_same) f cdv A outer s H E).w) (cxOf (L2.CX P w) P w K mg base ["_law_found", "_law_due", "_law_one", "_law_other"] "_law_same" (defScope s__law_same) f cdv A outer s H E).A (cxOf (L2.CX P w) P w K mg base ["_law_found", "_law_due", "_law_one", "_law_other"] "_law_same" (defScope s__law_same) f cdv A outer s H E).env (cxOf (L2.CX P w) P w K mg base ["_law_found", "_law_due", "_law_one", "_law_other"] "_law_same" (defScope s__law_same) f cdv A outer s H E).xe := passes_of rfl
      refine' (ss_cons (ss_if (st_val (SO.sb (so_callB od_isi (by rfl) z_isinstance (by rfl) (sa_cons (sb_var 1) (sa_cons (SO.sb (so_tup (sao_cons (so_ty (by rfl) z_list (by rfl)) (sao_cons (so_ty (by rfl) z_tuple (by rfl)) sao_nil (by rfl)) (by rfl)))) sa_nil (by decide) (by rfl)) (by decide) (by rfl)) (by decide) (by decide) (by rfl) (by rfl))) (by intro _; rfl)) (ss_cons (ss_if (SW.st (sw_or (st_not (st_val (SO.sb (so_callB od_isi (by rfl) z_isinstance (by rfl) (sa_cons (sb_var 0) (sa_cons (SO.sb (so_tup (sao_cons (so_ty (by rfl) z_list (by rfl)) (sao_cons (so_ty (by rfl) z_tuple (by rfl)) sao_nil (by rfl)) (by rfl)))) sa_nil (by decide) (by rfl)) (by decide) (by rfl)) (by decide) (by decide) (by rfl) (by rfl))) (by intro _; rfl))) (sw_or1 (st_cmpD (od_ne hr) (SO.sb (so_callB od_isi (by rfl) z_isinstance (by rfl) (sa_cons (sb_var 0) (sa_cons (SO.sb (so_ty (by rfl) z_list (by rfl))) sa_nil (by decide) (by rfl)) (by decide) (by rfl)) (by decide) (by decide) (by rfl) (by rfl))) (SO.sb (so_callB od_isi (by rfl) z_isinstance (by rfl) (sa_cons (sb_var 1) (sa_cons (SO.sb (so_ty (by rfl) z_list (by rfl))) sa_nil (by decide) (by rfl)) (by decide) (by rfl)) (by decide) (by decide) (by rfl) (by rfl))) (by first | exact nomark _ | rfl) (by decide))))) (ss_one (ss_ret so_bl)) ss_nil) (ss_one (ss_ret (so_and (SO.sb (so_cmpD (od_eq hr) (SO.sb (so_callB od_len (by rfl) z_len (by rfl) (sa_cons (sb_var 0) sa_nil (by decide) (by rfl)) (by decide) (by decide) (by rfl) (by rfl))) (SO.sb (so_callB od_len (by rfl) z_len (by rfl) (sa_cons (sb_var 1) sa_nil (by decide) (by rfl)) (by decide) (by decide) (by rfl) (by rfl))) (by first | exact nomark _ | rfl) (by decide))) (so_one (so_callB (od_all rfl) (by rfl) z_all (by rfl) (sa_cons (SO.sb (so_lc (own := [("_law_one", 2), ("_law_other", 3)]) [2, 3] rfl hN (si_zip (by rfl) z_zip (sa_cons (sb_var 0) (sa_cons (sb_var 1) sa_nil (by decide) (by rfl)) (by decide) (by rfl)) (by rfl) (by rfl)) (blkOk_by (N := ["_law_found", "_law_due", "_law_one", "_law_other"]) (sc := defScope s__law_same) (own := [("_law_one", 2), ("_law_other", 3)]) (by decide +kernel)) (fun _ _ _ _ _ => (sg_tup rfl (sgs_cons (sg_name 2 hN) (sgs_cons (sg_name 3 hN) sgs_nil (by rfl)) (by rfl)) (by rfl))) (fun _ _ _ _ _ => sts_nil) (fun _ _ _ _ _ => (so_call D__law_same hr takes0 (sri_ro (sb_var 2) (sri_ro (sb_var 3) sri_nil (by decide) (by rfl)) (by decide) (by rfl)) (by rfl) (by decide) (by rfl) (by rfl))) rfl (by decide) (by decide) (by intro _; rfl))) sa_nil (by decide) (by rfl)) (by decide) (by decide) (by rfl) (by rfl))))))) ss_nil) (ss_cons (ss_if (SW.st (sw_or (st_cmpD od_is (sb_var 1) (SO.sb so_non) (by first | exact nomark _ | rfl) (by decide)) (sw_or1 (st_val (SO.sb (so_callB od_isi (by rfl) z_isinstance (by rfl) (sa_cons (sb_var 1) (sa_cons (SO.sb (so_ty (by rfl) z_str (by rfl))) sa_nil (by decide) (by rfl)) (by decide) (by rfl)) (by decide) (by decide) (by rfl) (by rfl))) (by intro _; rfl))))) (ss_one (ss_ret (so_and (SO.sb (so_cmpD (od_eq hr) (sb_var 0) (sb_var 1) (by first | exact nomark _ | rfl) (by decide))) (so_one (so_cmpD (od_eq hr) (SO.sb (so_callB od_isi (by rfl) z_isinstance (by rfl) (sa_cons (sb_var 0) (sa_cons (SO.sb (so_ty (by rfl) z_str (by rfl))) sa_nil (by decide) (by rfl)) (by decide) (by rfl)) (by decide) (by decide) (by rfl) (by rfl))) (SO.sb (so_callB od_isi (by rfl) z_isinstance (by rfl) (sa_cons (sb_var 1) (sa_cons (SO.sb (so_ty (by rfl) z_str (by rfl))) sa_nil (by decide) (by rfl)) (by decide) (by rfl)) (by decide) (by decide) (by rfl) (by rfl))) (by first | exact nomark _ | rfl) (by decide)))))) ss_nil) (ss_one (ss_ret (so_and (SO.sb (so_callB od_isi (by rfl) z_isinstance (by rfl) (sa_cons (sb_var 0) (sa_cons (SO.sb (so_ty (by rfl) z_int (by rfl))) sa_nil (by decide) (by rfl)) (by decide) (by rfl)) (by decide) (by decide) (by rfl) (by rfl))) (so_and (SO.sb (so_cmpD (od_eq hr) (SO.sb (so_callB od_isi (by rfl) z_isinstance (by rfl) (sa_cons (sb_var 0) (sa_cons (SO.sb (so_ty (by rfl) z_bool (by rfl))) sa_nil (by decide) (by rfl)) (by decide) (by rfl)) (by decide) (by decide) (by rfl) (by rfl))) (SO.sb (so_callB od_isi (by rfl) z_isinstance (by rfl) (sa_cons (sb_var 1) (sa_cons (SO.sb (so_ty (by rfl) z_bool (by rfl))) sa_nil (by decide) (by rfl)) (by decide) (by rfl)) (by decide) (by decide) (by rfl) (by rfl))) (by first | exact nomark _ | rfl) (by decide))) (so_one (so_cmpD (od_eq hr) (sb_var 0) (sb_var 1) (by first | exact nomark _ | rfl) (by decide)))))))))
    case hv => decide
theorem ok__law_same {f : Addr} {fd : FuncData} (F : Fun K "_law_same" "_law_same" s__law_same f fd) (hm : mg "_law_same" = some (.ref f)) (hb : Binds K fd ["_law_found", "_law_due"] []) (z_list : mg "list" = none) (z_tuple : mg "tuple" = none) (z_isinstance : mg "isinstance" = none) (z_len : mg "len" = none) (z_zip : mg "zip" = none) (z_all : mg "all" = none) (z_str : mg "str" = none) (z_int : mg "int" = none) (z_bool : mg "bool" = none) : FnOk P w K mg base (L2.CX P w) 4 f fd ["_law_found", "_law_due"] (spF K mg [false, false] (φ__law_same 3)) := okr__law_same F hm hb z_list z_tuple z_isinstance z_len z_zip z_all z_str z_int z_bool 3
/-! #### law -/
abbrev s_law : Stmt := top 12
theorem sc_law : FnScope ["_law_script", "_law_k", "_law_tape_here", "_law_names_here", "_law_rows_here", "_law_kept", "_law_time", "_law_due", "_law_found"] ["_law_script"] (defScope s_law) := ⟨rfl, rfl, rfl, by decide +kernel, rfl, by decide +kernel, by decide +kernel⟩
def l_law_1 : CS := (sSeq (sAsg (cTake (cCall φ__law_at (aRo (cVar 4) (aRo (cVar 6) aNil))) (cK (.int 0))) (gSet 7)) (sSeq (sAsg (cCall φ_standing_at (aRo (cVar 4) (aRo (cVar 6) aNil))) (gSet 8)) (sSeq (sIf (tcNot (cTt (cCall (φ__law_same 3) (aRo (cVar 8) (aRo (cVar 7) aNil))))) (sRet (cK (.bl false))) sNil) (sSeq (sExpr (cMut 8 kdL mAppend (lVar 8) (cCons (c1 pNeg (cK (.int 1))) cNil))) (sIf (tcNot (cTt (cCall (φ__law_same 3) (aRo (cCall φ_standing_at (aRo (cL pTuple (cCons (cVar 4) cNil)) (aRo (cVar 6) aNil))) (aRo (cVar 7) aNil))))) (sRet (cK (.bl false))) sNil)))))
def l_law_2 : CS := (sSeq (sAsg (cCall φ__law_tape (aRo (cVar 0) (aRo (cVar 1) aNil))) (gSet 2)) (sSeq (sAsg (cCall φ__law_names (aOw (cMv 2) (some 2) aNil)) (gSet 3)) (sSeq (sAsg (cCall φ__law_rows (aOwL 2 (aRo (cVar 3) (aRo (cCall φ__law_turn (aOw (cMv 2) (some 2) aNil)) aNil)))) (gSet 4)) (sSeq (sAsg (cL pListG (cCons (cVar 4) cNil)) (gSet 5)) (sSeq (sFor (iAnyD (cCall φ__law_times (aRo (cVar 4) aNil))) (gSet 6) l_law_1) (sIf (cTt (c2 pNe (cVar 4) (cVar 5))) (sRet (cK (.bl false))) sNil))))))
def b_law : CS := (sSeq (sFor (iRange1 (cCons (c2 pAdd (cK (.int 1)) (cL pMinG (cCons (cK (.int 8)) (cCons (cL pLen (cCons (cVar 0) cNil)) cNil)))) cNil)) (gSet 1) l_law_2) (sRet (c2 pEq (cCall φ_standing_at (aRo (cLst cNil) (aRo (cK (.int 5)) aNil))) (cLst cNil))))
def φ_law : List D → FR := fnRun 9 [false] b_law
theorem ok_law {f : Addr} {fd : FuncData} (F : Fun K "law" "law" s_law f fd) (z_len : mg "len" = none) (z_min : mg "min" = none) (z_range : mg "range" = none) (z_list : mg "list" = none) (z_tuple : mg "tuple" = none) (d__law_tape : Fd P w K mg base 1 "_law_tape" ["_law_script", "_law_k"] [false, false] φ__law_tape) (d__law_names : Fd P w K mg base 2 "_law_names" ["_law_tape_here"] [true] φ__law_names) (d__law_turn : Fd P w K mg base 2 "_law_turn" ["_law_tape_here"] [true] φ__law_turn) (d__law_rows : Fd P w K mg base 3 "_law_rows" ["_law_tape_here", "_law_names_here", "_law_turn_here"] [true, false, false] φ__law_rows) (d__law_times : Fd P w K mg base 1 "_law_times" ["_law_rows_here"] [false] φ__law_times) (d__law_at : Fd P w K mg base 1 "_law_at" ["_law_rows_here", "_law_time"] [false, false] φ__law_at) (d_standing_at : Fd P w K mg base 1 "standing_at" ["rows", "time"] [false, false] φ_standing_at) (d__law_same : Fd P w K mg base 4 "_law_same" ["_law_found", "_law_due"] [false, false] (φ__law_same 3)) : FnOk P w K mg base (L2.CX P w) 5 f fd ["_law_script"] (spF K mg [false] φ_law) := by
  refine' fn_ok (M := _) (Vs := _) F sc_law rfl ?hv fun cdv A outer s H E hr => ?hb
  case hb =>
    have hr : Room 4 (cxOf (L2.CX P w) P w K mg base ["_law_script", "_law_k", "_law_tape_here", "_law_names_here", "_law_rows_here", "_law_kept", "_law_time", "_law_due", "_law_found"] "law" (defScope s_law) f cdv A outer s H E).A := hr
    have hN : (cxOf (L2.CX P w) P w K mg base ["_law_script", "_law_k", "_law_tape_here", "_law_names_here", "_law_rows_here", "_law_kept", "_law_time", "_law_due", "_law_found"] "law" (defScope s_law) f cdv A outer s H E).N.Nodup := sc_law.nd
    have tk : Takes (cxOf (L2.CX P w) P w K mg base ["_law_script", "_law_k", "_law_tape_here", "_law_names_here", "_law_rows_here", "_law_kept", "_law_time", "_law_due", "_law_found"] "law" (defScope s_law) f cdv A outer s H E) (fun cls d _ H => E cls d H) := takes_of rfl rfl rfl rfl
    have hp : PassesOwn (model (cxOf (L2.CX P w) P w K mg base ["_law_script", "_law_k", "_law_tape_here", "_law_names_here", "_law_rows_here", "_law_kept", "_law_time", "_law_due", "_law_found"] "law" (defScope s_law) f cdv A outer s H E).prog (cxOf (L2.CX P w) P w K mg base ["_law_script", "_law_k", "_law_tape_here", "_law_names_here", "_law_rows_here", "_law_kept", "_law_time", "_law_due", "_law_found"] "law" (defScope s_law) f cdv A outer s H E).w) (cxOf (L2.CX P w) P w K mg base ["_law_script", "_law_k", "_law_tape_here", "_law_names_here", "_law_rows_here", "_law_kept", "_law_time", "_law_due", "_law_found"] "law" (defScope s_law) f cdv A outer s H E).A (cxOf (L2.CX P w) P w K mg base ["_law_script", "_law_k", "_law_tape_here", "_law_names_here", "_law_rows_here", "_law_kept", "_law_time", "_law_due", "_law_found"] "law" (defScope s_law) f cdv A outer s H E).env (cxOf (L2.CX P w) P w K mg base ["_law_script", "_law_k", "_law_tape_here", "_law_names_here", "_law_rows_here", "_law_kept", "_law_time", "_law_due", "_law_found"] "law" (defScope s_law) f cdv A outer s H E).xe := passes_of rfl
    have D__law_tape := (d__law_tape).mono (k := 4) (by omega)
    have D__law_names := (d__law_names).mono (k := 4) (by omega)
    have D__law_turn := (d__law_turn).mono (k := 4) (by omega)
    have D__law_rows := (d__law_rows).mono (k := 4) (by omega)
    have D__law_times := (d__law_times).mono (k := 4) (by omega)
    have D__law_at := (d__law_at).mono (k := 4) (by omega)
    have D_standing_at := (d_standing_at).mono (k := 4) (by omega)
    have D__law_same := (d__law_same).mono (k := 4) (by omega)
    refine' (ss_cons (ss_for hp rfl (si_range1 (by rfl) z_range (sa_cons (SO.sb (so_bin od_add (SO.sb so_int) (SO.sb (so_callB (od_minG hr rfl) (by rfl) z_min (by rfl) (sa_cons (SO.sb so_int) (sa_cons (SO.sb (so_callB od_len (by rfl) z_len (by rfl) (sa_cons (sb_var 0) sa_nil (by decide) (by rfl)) (by decide) (by decide) (by rfl) (by rfl))) sa_nil (by decide) (by rfl)) (by decide) (by rfl)) (by decide) (by decide) (by rfl) (by rfl))) (by decide))) sa_nil (by decide) (by rfl)) (by rfl)) (sg_name 1 hN) (ss_cons (ss_setI hN (so_call D__law_tape hr tk (sri_ro (sb_var 0) (sri_ro (sb_var 1) sri_nil (by decide) (by rfl)) (by decide) (by rfl)) (by rfl) (by decide) (by rfl) (by rfl)) (by rfl) (by first | exact .inl rfl | exact .inr rfl) (by rfl) (by first | exact .inl rfl | exact .inr rfl | assumption)) (ss_cons (ss_setI hN (so_call D__law_names hr tk (sri_ioI sri_nil (by rfl) (by first | exact Or.inl rfl | exact Or.inr (Or.inl rfl) | exact Or.inr (Or.inr rfl)) (by decide) (by decide) (by rfl)) (by rfl) (by decide) (by rfl) (by rfl)) (by rfl) (by first | exact .inl rfl | exact .inr rfl) (by rfl) (by first | exact .inl rfl | exact .inr rfl | assumption)) (ss_cons (ss_setI hN (so_call D__law_rows hr tk (sri_late 2 (sri_ro (sb_var 3) (sri_ro (SO.sb (so_call D__law_turn hr tk (sri_ioI sri_nil (by rfl) (by first | exact Or.inl rfl | exact Or.inr (Or.inl rfl) | exact Or.inr (Or.inr rfl)) (by decide) (by decide) (by rfl)) (by rfl) (by decide) (by rfl) (by rfl))) sri_nil (by decide) (by rfl)) (by decide) (by rfl)) (by decide) (by rfl) (by first | exact Or.inl rfl | exact Or.inr (Or.inl rfl) | exact Or.inr (Or.inr rfl)) (by decide) (by decide) (by rfl)) (by rfl) (by decide) (by rfl) (by rfl)) (by rfl) (by first | exact .inl rfl | exact .inr rfl) (by rfl) (by first | exact .inl rfl | exact .inr rfl | assumption)) (ss_cons (ss_setI hN (so_callTy (od_listG rfl) (by rfl) z_list (by rfl) (sa_cons (sb_var 4) sa_nil (by decide) (by rfl)) (by decide) (by decide) (by rfl) (by rfl)) (by rfl) (by first | exact .inl rfl | exact .inr rfl) (by rfl) (by first | exact .inl rfl | exact .inr rfl | assumption)) (ss_cons (ss_for hp rfl (si_any (SO.sb (so_call D__law_times hr tk (sri_ro (sb_var 4) sri_nil (by decide) (by rfl)) (by rfl) (by decide) (by rfl) (by rfl)))) (sg_name 6 hN) (ss_cons (ss_setI hN (so_take hr (so_call D__law_at hr tk (sri_ro (sb_var 4) (sri_ro (sb_var 6) sri_nil (by decide) (by rfl)) (by decide) (by rfl)) (by rfl) (by decide) (by rfl) (by rfl)) (SO.sb so_int) (by exact fun _ _ => rfl)) (by rfl) (by first | exact .inl rfl | exact .inr rfl) (by rfl) (by first | exact .inl rfl | exact .inr rfl | assumption)) (ss_cons (ss_setI hN (so_call D_standing_at hr tk (sri_ro (sb_var 4) (sri_ro (sb_var 6) sri_nil (by decide) (by rfl)) (by decide) (by rfl)) (by rfl) (by decide) (by rfl) (by rfl)) (by rfl) (by first | exact .inl rfl | exact .inr rfl) (by rfl) (by first | exact .inl rfl | exact .inr rfl | assumption)) (ss_cons (ss_if (st_not (st_val (SO.sb (so_call D__law_same hr tk (sri_ro (sb_var 8) (sri_ro (sb_var 7) sri_nil (by decide) (by rfl)) (by decide) (by rfl)) (by rfl) (by decide) (by rfl) (by rfl))) (by intro _; rfl))) (ss_one (ss_ret so_bl)) ss_nil) (ss_cons (ss_expr (SO.sb (so_mutA (sl_var 8) (sao_cons (so_neg (SO.sb so_int)) sao_nil (by rfl)) (by decide) (by rfl) (by rfl) (by rfl) (by rfl) (by rfl))) (by rfl)) (ss_one (ss_if (st_not (st_val (SO.sb (so_call D__law_same hr tk (sri_ro (SO.sb (so_call D_standing_at hr tk (sri_ro (SO.sb (so_callTy od_tuple (by rfl) z_tuple (by rfl) (sa_cons (sb_var 4) sa_nil (by decide) (by rfl)) (by decide) (by decide) (by rfl) (by rfl))) (sri_ro (sb_var 6) sri_nil (by decide) (by rfl)) (by decide) (by rfl)) (by rfl) (by decide) (by rfl) (by rfl))) (sri_ro (sb_var 7) sri_nil (by decide) (by rfl)) (by decide) (by rfl)) (by rfl) (by decide) (by rfl) (by rfl))) (by intro _; rfl))) (ss_one (ss_ret so_bl)) ss_nil)))))) (by decide) (by intro _; rfl)) (ss_one (ss_if (st_cmpD (od_ne hr) (sb_var 4) (sb_var 5) (by first | exact nomark _ | rfl) (by decide)) (ss_one (ss_ret so_bl)) ss_nil))))))) (by decide) (by intro _; rfl)) (ss_one (ss_ret (so_cmpD (od_eq hr) (SO.sb (so_call D_standing_at hr tk (sri_ro (SO.sb (so_lst sao_nil)) (sri_ro (SO.sb so_int) sri_nil (by decide) (by rfl)) (by decide) (by rfl)) (by rfl) (by decide) (by rfl) (by rfl))) (SO.sb (so_lst sao_nil)) (by first | exact nomark _ | rfl) (by decide)))))
  case hv => decide
end

end VS

set_option maxRecDepth 100000
set_option maxHeartbeats 0
namespace VS
open PySem L2 SeqAt
/-! ### triples: a statement goes on from P to Q -/
def Tri (P : Env → Prop) (c : CS) (Q : Env → Prop) : Prop := ∀ env, P env → ∃ env', c env = .nx env' ∧ Q env'
theorem tri_seq {P Q R : Env → Prop} {c1 c2 : CS} (h1 : Tri P c1 R) (h2 : Tri R c2 Q) : Tri P (sSeq c1 c2) Q := fun env h => by
  obtain ⟨e1, k1, k2⟩ := h1 env h
  obtain ⟨e2, k3, k4⟩ := h2 e1 k2
  exact ⟨e2, by rw [e_seq, k1]; exact k3, k4⟩
theorem tri_mono {P P' Q Q' : Env → Prop} {c : CS} (h : Tri P' c Q') (hp : ∀ e, P e → P' e) (hq : ∀ e, Q' e → Q e) : Tri P c Q := fun env h0 => by
  obtain ⟨e1, k1, k2⟩ := h env (hp _ h0)
  exact ⟨e1, k1, hq _ k2⟩
theorem tri_for {α : Type} {f : α → D} {g : D → Env → Option Env} {body : CS} {P : List α → Env → Prop} {G : α → List α → Env → Prop} (hg : ∀ x xs env, P (x :: xs) env → ∃ env1, g (f x) env = some env1 ∧ G x xs env1) (hb : ∀ x xs, Tri (G x xs) body (P xs)) (xs : List α) :
    ∀ env, P xs env → ∃ env', forRun g body (xs.map f) env = .nx env' ∧ P [] env' := fun env h => by
  refine for_inv P (fun x xs env h => ?_) xs env h
  obtain ⟨e1, k1, k2⟩ := hg x xs env h
  obtain ⟨e2, k3, k4⟩ := hb x xs e1 k2
  exact ⟨e1, e2, k1, k3, k4⟩
/-! ### the tape -/
abbrev Tp := Int × Int
def tp (t : Tp) : D := .lst .m [.int t.1, .int t.2]
def drV (t : Tp) (m : Int) : Int := if 0 < t.1 then t.1 % m else ((t.2 * 48271 + 39373) % 2147483647 * ((t.2 * 48271 + 39373) % 2147483647 % 40009 + 7) % 2147483587) / 64 % m
def drT (t : Tp) (m : Int) : Tp := if 0 < t.1 then (t.1 / m, t.2) else (t.1, (t.2 * 48271 + 39373) % 2147483647)
theorem drV_0 {t : Tp} {m : Int} (h : 0 < m) : 0 ≤ drV t m := by unfold drV; split <;> exact Int.emod_nonneg _ (by omega)
theorem drV_lt {t : Tp} {m : Int} (h : 0 < m) : drV t m < m := by unfold drV; split <;> exact Int.emod_lt_of_pos _ h
@[simp] theorem nol_tp (t : Tp) : (tp t).nol = true := rfl
@[simp] theorem imm_tp (t : Tp) : (tp t).imm = false := rfl
theorem v_tape (ns : List Int) (k : Nat) : ∃ t, φ__law_tape [.lst .l (ns.map D.int), .int k] = .ok (tp t) [] := by
  unfold φ__law_tape fnRun b__law_tape
  by_cases hk : k < ns.length
  · have e : atI (ns.map D.int) (k : Int) = some (.int ns[k]) := by rw [atI_nat (by simpa using hk)]; simp [hk]
    have hk' : (k : Int) < ns.length := by omega
    exact ⟨(_, _), by simp [fnEnv, fnEnd, outsOf, hk, hk', e, tp]; exact ⟨rfl, rfl⟩⟩
  · have hk' : ¬ (k : Int) < ns.length := by omega
    exact ⟨(_, _), by simp [fnEnv, fnEnd, outsOf, hk, hk', tp]; exact ⟨rfl, rfl⟩⟩
@[simp] theorem m4a (x : Int) : -18446744073709551616 < x % 40009 + 7 := by omega
@[simp] theorem m4b (x : Int) : x % 40009 + 7 < 18446744073709551616 := by omega
theorem v_draw (t : Tp) {m : Int} (h : 0 < m) (h2 : m < 2 ^ 64) : φ__law_draw [tp t, .int m] = .ok (.int (drV t m)) [tp (drT t m)] := by
  unfold φ__law_draw fnRun b__law_draw
  have h3 : m < 18446744073709551616 := h2
  unfold drV drT
  by_cases ha : 0 < t.1
  · simp [fnEnv, fnEnd, outsOf, tp, ha, h, h3, stD, ixN, lVar, gSubD]
  · simp [fnEnv, fnEnd, outsOf, tp, ha, h, h3, stD, ixN, lVar, gSubD]
/-! ### names -/
def lit16 : Str := "b aa zebra c quartzes ab m knows d mm likes z a ba abcdefgh y"
def nms16 : List Str := Txt.split lit16 " "
def nameOk (n : Str) : Bool := decide (1 ≤ n.length) && decide (n.length ≤ 8) && n.cps.toList.all fun c => decide (c ∈ ("abcdefghijklmnopqrstuvwxyz" : Str).cps.toList)
theorem nms16_facts : nms16.length = 16 ∧ nms16.Nodup ∧ (nms16.all nameOk) = true := by decide +kernel
theorem v_split16 : pSplit (.str "b aa zebra c quartzes ab m knows d mm likes z a ba abcdefgh y") (.str " ") = some (.lst .m (nms16.map D.str)) :=
  if_pos (e := none) (c := ((" " : Str).length == 0) = false ∧ lit16.length + 2 ≤ sizeLine) ⟨by decide +kernel, sz_ok (by decide +kernel)⟩
structure NOk (ns : List Str) : Prop where
  nd : ns.Nodup
  len : ns.length ≤ 14
  ok : ∀ n ∈ ns, nameOk n = true
theorem v_names (t : Tp) : ∃ ns t', φ__law_names [tp t] = .ok (.lst .m (ns.map D.str)) [tp t'] ∧ NOk ns := by
  obtain ⟨f1, f2, f3⟩ := nms16_facts
  have hs := v_split16
  generalize nms16 = ws at f1 f2 f3 hs
  have d16 := v_draw t (m := 16) (by decide) (by decide)
  have q0 := drV_0 (t := t) (m := 16) (by decide)
  generalize drV t 16 = r1 at d16 q0
  generalize drT t 16 = t1 at d16
  have d3 := v_draw t1 (m := 3) (by decide) (by decide)
  have q1 := drV_0 (t := t1) (m := 3) (by decide)
  have q2 := drV_lt (t := t1) (m := 3) (by decide)
  generalize drV t1 3 = r2 at d3 q1 q2
  generalize drT t1 3 = t2 at d3
  have d5 := v_draw t2 (m := 5) (by decide) (by decide)
  have q3 := drV_0 (t := t2) (m := 5) (by decide)
  have q4 := drV_lt (t := t2) (m := 5) (by decide)
  generalize drV t2 5 = r3 at d5 q3 q4
  generalize drT t2 5 = t3 at d5
  have d5' := v_draw t3 (m := 5) (by decide) (by decide)
  have q5 := drV_0 (t := t3) (m := 5) (by decide)
  have q6 := drV_lt (t := t3) (m := 5) (by decide)
  generalize drV t3 5 = r4 at d5' q5 q6
  generalize drT t3 5 = t4 at d5'
  have d8 := v_draw t4 (m := 8) (by decide) (by decide)
  have q7 := drV_0 (t := t4) (m := 8) (by decide)
  generalize drV t4 8 = r5 at d8 q7
  generalize drT t4 8 = t5 at d8
  have hmany : ∃ m : Int, atI [D.int r2, .int (10 + r3), .int (4 + r4)] (if r5 < 2 then r5 else 2) = some (.int m) ∧ 0 ≤ m ∧ m ≤ 14 := by
    have : r5 = 0 ∨ r5 = 1 ∨ 2 ≤ r5 := by omega
    rcases this with h | h | h
    · subst h; exact ⟨r2, by simp, by omega, by omega⟩
    · subst h; exact ⟨10 + r3, by simp, by omega, by omega⟩
    · rw [if_neg (by omega)]; exact ⟨4 + r4, by simp, by omega, by omega⟩
  obtain ⟨m, hm, m0, m1⟩ := hmany
  have hr := e_rng m (by omega) (by omega)
  let ix : Nat → Nat := fun k => ((r1 + 5 * (k : Int)) % 16).toNat
  have ixl : ∀ k, ix k < ws.length := fun k => by show ((r1 + 5 * (k : Int)) % 16).toNat < _; omega
  let y : D → D := fun d => match d with
    | .int k => .str (ws.getD (ix k.toNat) Str.empty)
    | _ => .non
  have at5 : ∀ k : Nat, atI (ws.map D.str) ((r1 + 5 * (k : Int)) % 16) = some (.str (ws.getD (ix k) Str.empty)) := fun k => by
    have h0 : 0 ≤ (r1 + 5 * (k : Int)) % 16 := Int.emod_nonneg _ (by decide)
    have e : (r1 + 5 * (k : Int)) % 16 = ((ix k : Nat) : Int) := by show _ = ((((r1 + 5 * (k : Int)) % 16).toNat : Nat) : Int); omega
    rw [e, atI_nat (by simpa using ixl k), List.getElem?_map, List.getD_eq_getElem?_getD, List.getElem?_eq_getElem (ixl k)]; rfl
  have hc := lc_map (vs := [4]) (g := gSet 4) (ce := cImm (cIdx (cVar 1) (c2 pMod (c2 pAdd (cVar 2) (c2 pMulI (cK (.int 5)) (cVar 4))) (cK (.int 16))))) (env := [some (tp t5), some (.lst .m (ws.map D.str)), some (.int r1), some (.int m), none])
    (y := y) (ds := (List.range m.toNat).map fun (i : Nat) => D.int (i : Nat)) (by
      intro x hx
      obtain ⟨k, hk, rfl⟩ := List.mem_map.mp hx
      refine ⟨[some (tp t5), some (.lst .m (ws.map D.str)), some (.int r1), some (.int m), some (.int k)], by simp, rfl, ?_, by simp⟩
      have e : y (.int k) = .str (ws.getD (ix k) Str.empty) := rfl
      rw [e]
      simp [at5 k])
  have hmap : ((List.range m.toNat).map fun (i : Nat) => D.int (i : Nat)).map y = ((List.range m.toNat).map fun i => ws.getD (ix i) Str.empty).map D.str := by
    rw [List.map_map, List.map_map]; rfl
  rw [hmap] at hc
  have hz : m.toNat ≤ sizeLine := sz_ok (by omega)
  refine ⟨(List.range m.toNat).map fun i => ws.getD (ix i) Str.empty, t5, ?_, ?_, by simp; omega, fun n hn => ?_⟩
  · unfold φ__law_names fnRun b__law_names
    simp [fnEnv, fnEnd, outsOf, hs, d16, d3, d5, d5', d8, hm, hr, hz, hc]
  · refine List.pairwise_map.mpr (List.Pairwise.imp_of_mem (R := fun a b => a < b) (fun {a b} ha hb hab => ?_) List.pairwise_lt_range)
    simp only [List.mem_range] at ha hb
    rw [List.getD_eq_getElem?_getD, List.getD_eq_getElem?_getD, List.getElem?_eq_getElem (ixl a), List.getElem?_eq_getElem (ixl b)]
    intro e
    have pw := List.pairwise_iff_getElem.mp f2
    have e : ws[ix a]'(ixl a) = ws[ix b]'(ixl b) := by simpa using e
    have h1 : ix a = ix b := by
      rcases Nat.lt_trichotomy (ix a) (ix b) with z | z | z
      · exact absurd e (pw _ _ (ixl a) (ixl b) z)
      · exact z
      · exact absurd e.symm (pw _ _ (ixl b) (ixl a) z)
    have h1 : ((r1 + 5 * (a : Int)) % 16).toNat = ((r1 + 5 * (b : Int)) % 16).toNat := h1
    omega
  · obtain ⟨i, _, rfl⟩ := List.mem_map.mp hn
    rw [List.getD_eq_getElem?_getD, List.getElem?_eq_getElem (ixl i)]
    exact List.all_eq_true.mp f3 _ (List.getElem_mem _)
theorem v_turn (t : Tp) : ∃ z t', φ__law_turn [tp t] = .ok (.int z) [tp t'] ∧ 0 ≤ z ∧ z ≤ 1000 := by
  have e8 := v_draw t (m := 8) (by decide) (by decide)
  have h0 := drV_0 (t := t) (m := 8) (by decide)
  have h1 := drV_lt (t := t) (m := 8) (by decide)
  unfold φ__law_turn fnRun b__law_turn
  generalize hv : drV t 8 = v at *
  have : v = 0 ∨ v = 1 ∨ v = 2 ∨ v = 3 ∨ v = 4 ∨ v = 5 ∨ v = 6 ∨ v = 7 := by omega
  have s8 : 8 ≤ sizeLine := sz_ok (by decide)
  rcases this with h | h | h | h | h | h | h | h <;> subst h <;> exact ⟨_, _, by simp [fnEnv, fnEnd, outsOf, e8, s8, atI, ixN]; exact ⟨rfl, rfl⟩, by decide, by decide⟩
end VS

set_option maxRecDepth 100000
set_option maxHeartbeats 0
namespace VS
open PySem L2 SeqAt
/-! ### joinings -/
abbrev Jn := Str × Str × Int
def jt (j : Jn) : D := .tup [.str j.1, .str j.2.1, .int j.2.2]
def pt (p : Int × Int) : D := .tup [.int p.1, .int p.2]
@[simp] theorem imm_jt (j : Jn) : (jt j).imm = true := rfl
@[simp] theorem imm_pt (j : Int × Int) : (pt j).imm = true := rfl
@[simp] theorem lend_jt (j : Jn) : (jt j).lend = jt j := rfl
@[simp] theorem lend_pt (j : Int × Int) : (pt j).lend = pt j := rfl
@[simp] theorem imms_jts : ∀ js : List Jn, imms (js.map jt) = true
  | [] => rfl
  | j :: js => by simp [imms_jts js]
@[simp] theorem imms_pts : ∀ js : List (Int × Int), imms (js.map pt) = true
  | [] => rfl
  | j :: js => by simp [imms_pts js]
@[simp] theorem lends_jts : ∀ js : List Jn, lends (js.map jt) = js.map jt
  | [] => rfl
  | j :: js => by simp [lends_jts js]
@[simp] theorem lends_pts : ∀ js : List (Int × Int), lends (js.map pt) = js.map pt
  | [] => rfl
  | j :: js => by simp [lends_pts js]
@[simp] theorem lends_strs : ∀ js : List Str, lends (js.map D.str) = js.map D.str
  | [] => rfl
  | j :: js => by simp [lends_strs js]
@[simp] theorem nol_jt (j : Jn) : (jt j).nol = true := rfl
@[simp] theorem nol_pt (j : Int × Int) : (pt j).nol = true := rfl
@[simp] theorem nols_jts : ∀ js : List Jn, nols (js.map jt) = true
  | [] => rfl
  | j :: js => by simp [nols_jts js]
@[simp] theorem nols_pts : ∀ js : List (Int × Int), nols (js.map pt) = true
  | [] => rfl
  | j :: js => by simp [nols_pts js]
@[simp] theorem nols_strs : ∀ js : List Str, nols (js.map D.str) = true
  | [] => rfl
  | j :: js => by simp [nols_strs js]
@[simp] theorem nols_ints : ∀ js : List Int, nols (js.map D.int) = true
  | [] => rfl
  | j :: js => by simp [nols_ints js]
/-- joinings as a list that is lent, or as a tuple -/
inductive Hold {α : Type} (f : α → D) (js : List α) : D → Prop
  | l : Hold f js (.lst .l (js.map f))
  | t : Hold f js (.tup (js.map f))
theorem eqOks_jts (n : Nat) : ∀ js : List Jn, eqOks (n + 1) (js.map jt) = true
  | [] => rfl
  | j :: js => by
    have := eqOks_jts n js
    simp only [List.map_cons, eqOks, this, Bool.and_true]; rfl
theorem ne_jts (g : Fl) (js : List Jn) : pNe (.lst g (js.map jt)) (.lst .m []) = some (.bl (!js.isEmpty)) := by
  unfold pNe
  have h : eqOk 40 (.lst g (js.map jt)) = true := eqOks_jts 38 js
  have h2 : eqOk 40 (.lst .m []) = true := rfl
  rw [h, h2]
  cases js <;> rfl
structure JOk (ns : List Str) (js : List Jn) : Prop where
  one : ∀ j ∈ js, j.1 ∈ ns
  other : ∀ j ∈ js, j.2.1 ∈ ns
  lo : ∀ j ∈ js, -1000000000000 ≤ j.2.2
  hi : ∀ j ∈ js, j.2.2 ≤ 1000000000000
theorem JOk.snoc {ns : List Str} {js : List Jn} (h : JOk ns js) {x y : Str} {z : Int} (hx : x ∈ ns) (hy : y ∈ ns) (h1 : -1000000000000 ≤ z) (h2 : z ≤ 1000000000000) : JOk ns (js ++ [(x, y, z)]) := by
  have go : ∀ {P : Jn → Prop}, (∀ j ∈ js, P j) → P (x, y, z) → ∀ j ∈ js ++ [(x, y, z)], P j := fun h1 h2 j hj => by
    rcases List.mem_append.mp hj with q | q
    · exact h1 j q
    · simp at q; subst q; exact h2
  exact ⟨go h.one hx, go h.other hy, go h.lo h1, go h.hi h2⟩
theorem at_name {ns : List Str} {r : Int} (h0 : 0 ≤ r) (h1 : r < ns.length) : ∃ s, s ∈ ns ∧ atI (ns.map D.str) r = some (.str s) := by
  obtain ⟨x, m, _, e⟩ := atI_map (f := D.str) h0 h1
  exact ⟨x, m, e⟩
theorem at_jt {js : List Jn} {r : Int} (h0 : 0 ≤ r) (h1 : r < js.length) : ∃ j, j ∈ js ∧ atI (js.map jt) r = some (jt j) := by
  obtain ⟨x, m, _, e⟩ := atI_map (f := jt) h0 h1
  exact ⟨x, m, e⟩
theorem cut2 (x y z : D) : cutD [x, y, z] none (some 2) = [x, y] := (rfl)
theorem pairs_Y {P : Int → Prop} : ∀ {ns : List Str} {ys : List D}, Paired (fun d y => ∃ (s : Str) (n : Int), d = .str s ∧ y = .tup [.str s, .int n] ∧ P n) (ns.map D.str) ys →
    imms ys = true ∧ ∃ ps, pairsD ys = some ps ∧ (∀ p ∈ ps, ∃ n : Int, p.2 = .int n ∧ P n) ∧ ∀ s ∈ ns, ∃ p ∈ ps, p.1 = Sum.inr s
  | [], ys, h => by cases h; exact ⟨rfl, [], rfl, (fun _ z => nomatch z), (fun _ z => nomatch z)⟩
  | x :: ns, ys, h => by
    rw [List.map_cons] at h
    cases h with
    | cons h1 h2 =>
      obtain ⟨s, n, e1, rfl, hp⟩ := h1
      cases e1
      obtain ⟨i1, ps, i2, i3, i4⟩ := pairs_Y h2
      refine ⟨by simp [i1], (Sum.inr x, .int n) :: ps, by simp [pairsD, D.key, i2], fun p hp' => ?_, fun s hs => ?_⟩
      · rcases List.mem_cons.mp hp' with z | z
        · subst z; exact ⟨n, rfl, hp⟩
        · exact i3 p z
      · rcases List.mem_cons.mp hs with z | z
        · subst z; exact ⟨_, List.mem_cons_self, rfl⟩
        · obtain ⟨p, hp, e⟩ := i4 s z
          exact ⟨p, List.mem_cons_of_mem _ hp, e⟩
end VS

set_option maxRecDepth 100000
set_option maxHeartbeats 0
namespace VS
open PySem L2 SeqAt
section
variable (ns : List Str) (t w sl : Int) (dk : D)
/-- the slots while joinings are drawn -/
def JE (js : List J) (T : Tp) (o8 o9 o10 o11 o12 : Option D) : Env := [some (tp T), some (.lst .l (ns.map D.str)), some (.int t), some (.lst .m (js.map jt)), some (.int w), some dk, none, some (.int sl), o8, o9, o10, o11, o12]
def JP (k : Nat) (env : Env) : Prop := ∃ js T o8 o9 o10 o11 o12, env = JE ns t w sl dk js T o8 o9 o10 o11 o12 ∧ JOk ns js ∧ js.length = k
def JQ1 (k : Nat) (env : Env) : Prop := ∃ js T o8 o9 o10 x y, env = JE ns t w sl dk js T o8 o9 o10 (some (.str x)) (some (.str y)) ∧ JOk ns js ∧ js.length = k ∧ x ∈ ns ∧ y ∈ ns
def JQ2 (k : Nat) (env : Env) : Prop := ∃ js T o8 r o10 x y, env = JE ns t w sl dk js T o8 (some (.int r)) o10 (some (.str x)) (some (.str y)) ∧ JOk ns js ∧ js.length = k ∧ x ∈ ns ∧ y ∈ ns
def JQ3 (b : Int) (k : Nat) (env : Env) : Prop := ∃ js T o8 o9 z x y, env = JE ns t w sl dk js T o8 o9 (some (.int z)) (some (.str x)) (some (.str y)) ∧ JOk ns js ∧ js.length = k ∧ x ∈ ns ∧ y ∈ ns ∧ -b ≤ z ∧ z ≤ b
variable {ns t w sl dk}
theorem v_join_step (h0 : 0 < ns.length) (h1 : ns.length ≤ 14) (ht : 0 ≤ t ∧ t ≤ 1000) (hw : 0 < w ∧ w ≤ 400000000000) (hsl : 0 ≤ sl ∧ sl ≤ 12) (hk : ∀ s ∈ ns, ∃ n : Int, ixD dk (.str s) = some (.int n) ∧ -w ≤ n ∧ n < w) {k : Nat} (hn : k ≤ 100) :
    Tri (JP ns t w sl dk k) l__law_joinings_1 (JP ns t w sl dk (k + 1)) := by
  have hl0 : (0 : Int) < ns.length := by omega
  have hl64 : (ns.length : Int) < 2 ^ 64 := by omega
  have dn := fun T => v_draw T hl0 hl64
  have q0 := fun T => drV_0 (t := T) hl0
  have q1 := fun T => drV_lt (t := T) hl0
  have hb : -18446744073709551616 < t ∧ t < 18446744073709551616 := by omega
  unfold l__law_joinings_1
  refine tri_seq (R := JQ1 ns t w sl dk k) ?_ (tri_seq (R := JQ2 ns t w sl dk k) ?_ (tri_seq (R := JQ2 ns t w sl dk k) ?_ (tri_seq (R := JQ2 ns t w sl dk k) ?_ (tri_seq (R := JQ2 ns t w sl dk k) ?_ (tri_seq (R := JQ3 ns t w sl dk 810000000000 k) ?_ (tri_seq (R := JQ3 ns t w sl dk 1000000000000 k) ?_ ?_))))))
  · rintro env ⟨js, T, o8, o9, o10, o11, o12, rfl, hj, hl⟩
    obtain ⟨x, m1, g1⟩ := at_name (q0 T) (q1 T)
    obtain ⟨y, m2, g2⟩ := at_name (q0 (drT T ns.length)) (q1 (drT T ns.length))
    exact ⟨JE ns t w sl dk js (drT (drT T ns.length) ns.length) o8 o9 o10 (some (.str x)) (some (.str y)), by unfold JE; simp [dn, g1, g2], _, _, _, _, _, _, _, rfl, hj, hl, m1, m2⟩
  · rintro env ⟨js, T, o8, o9, o10, x, y, rfl, hj, hl, hx, hy⟩
    have d9 := v_draw T (m := 9) (by decide) (by decide)
    exact ⟨JE ns t w sl dk js (drT T 9) o8 (some (.int (drV T 9))) o10 (some (.str x)) (some (.str y)), by unfold JE; simp [d9], _, _, _, _, _, _, _, rfl, hj, hl, hx, hy⟩
  · rintro env ⟨js, T, o8, r, o10, x, y, rfl, hj, hl, hx, hy⟩
    by_cases hr : r = 0
    · exact ⟨JE ns t w sl dk js T o8 (some (.int r)) o10 (some (.str x)) (some (.str x)), by unfold JE; simp [hr], _, _, _, _, _, _, _, rfl, hj, hl, hx, hx⟩
    · exact ⟨JE ns t w sl dk js T o8 (some (.int r)) o10 (some (.str x)) (some (.str y)), by unfold JE; simp [hr], _, _, _, _, _, _, _, rfl, hj, hl, hx, hy⟩
  · rintro env ⟨js, T, o8, r, o10, x, y, rfl, hj, hl, hx, hy⟩
    have hne := ne_jts .m js
    by_cases hr : r = 1 ∧ js ≠ []
    · have hje : js.isEmpty = false := by simpa using hr.2
      have hjl : (0 : Int) < js.length := by have := List.length_pos_iff.mpr hr.2; omega
      have d4 := v_draw T hjl (by omega)
      obtain ⟨j, hm, g⟩ := at_jt (drV_0 (t := T) hjl) (drV_lt (t := T) hjl)
      rw [hje] at hne
      exact ⟨JE ns t w sl dk js (drT T js.length) o8 (some (.int r)) o10 (some (.str j.1)) (some (.str j.2.1)), by unfold JE; simp [hr.1, hne, d4, g, jt, cut2], _, _, _, _, _, _, _, rfl, hj, hl, hj.one j hm, hj.other j hm⟩
    · refine ⟨JE ns t w sl dk js T o8 (some (.int r)) o10 (some (.str x)) (some (.str y)), ?_, _, _, _, _, _, _, _, rfl, hj, hl, hx, hy⟩
      by_cases h1 : r = 1
      · have : js = [] := Classical.byContradiction fun z => hr ⟨h1, z⟩
        subst this; unfold JE
        simp only [List.map_nil, List.isEmpty_nil] at hne
        simp [h1, hne]
      · unfold JE; simp [h1]
  · rintro env ⟨js, T, o8, r, o10, x, y, rfl, hj, hl, hx, hy⟩
    have hne := ne_jts .m js
    by_cases hr : r = 2 ∧ js ≠ []
    · have hje : js.isEmpty = false := by simpa using hr.2
      have hjl : (0 : Int) < js.length := by have := List.length_pos_iff.mpr hr.2; omega
      have d4 := v_draw T hjl (by omega)
      obtain ⟨j, hm, g⟩ := at_jt (drV_0 (t := T) hjl) (drV_lt (t := T) hjl)
      rw [hje] at hne
      exact ⟨JE ns t w sl dk js (drT T js.length) o8 (some (.int r)) o10 (some (.str j.2.1)) (some (.str j.1)), by unfold JE; simp [hr.1, hne, d4, g, jt, cut2], _, _, _, _, _, _, _, rfl, hj, hl, hj.other j hm, hj.one j hm⟩
    · refine ⟨JE ns t w sl dk js T o8 (some (.int r)) o10 (some (.str x)) (some (.str y)), ?_, _, _, _, _, _, _, _, rfl, hj, hl, hx, hy⟩
      by_cases h1 : r = 2
      · have : js = [] := Classical.byContradiction fun z => hr ⟨h1, z⟩
        subst this; unfold JE
        simp only [List.map_nil, List.isEmpty_nil] at hne
        simp [h1, hne]
      · unfold JE; simp [h1]
  · rintro env ⟨js, T, o8, r, o10, x, y, rfl, hj, hl, hx, hy⟩
    obtain ⟨nx, k1, a1, a2⟩ := hk x hx
    obtain ⟨ny, k2, b1, b2⟩ := hk y hy
    have d5 := v_draw T (m := 5) (by decide) (by decide)
    have z0 := drV_0 (t := T) (m := 5) (by decide)
    have z1 := drV_lt (t := T) (m := 5) (by decide)
    have e1 : -2000 ≤ t * (drV T 5 - 2) := by have := Int.mul_le_mul_of_nonneg_left (show -2 ≤ drV T 5 - 2 by omega) ht.1; omega
    have e2 : t * (drV T 5 - 2) ≤ 2000 := by have := Int.mul_le_mul_of_nonneg_left (show drV T 5 - 2 ≤ 2 by omega) ht.1; omega
    exact ⟨JE ns t w sl dk js (drT T 5) o8 (some (.int r)) (some (.int (ny - nx + t * (drV T 5 - 2)))) (some (.str x)) (some (.str y)), by unfold JE; simp [k1, k2, d5, hb], _, _, _, _, _, _, _, rfl, hj, hl, hx, hy, by omega, by omega⟩
  · rintro env ⟨js, T, o8, o9, z, x, y, rfl, hj, hl, hx, hy, z1, z2⟩
    by_cases hs : 0 < sl
    · have d6 := v_draw T hs (by omega)
      by_cases hr : drV T sl = 0
      · have d7 := v_draw (drT T sl) (m := 4) (by decide) (by decide)
        have y0 := drV_0 (t := drT T sl) (m := 4) (by decide)
        have y1 := drV_lt (t := drT T sl) (m := 4) (by decide)
        obtain ⟨u, hu, u1, u2⟩ : ∃ u : Int, atI [D.int 1, .int (-1), .int 2, .int 100000000000] (drV (drT T sl) 4) = some (.int u) ∧ -1 ≤ u ∧ u ≤ 100000000000 := by
          generalize drV (drT T sl) 4 = r7 at *
          have : r7 = 0 ∨ r7 = 1 ∨ r7 = 2 ∨ r7 = 3 := by omega
          rcases this with h | h | h | h <;> subst h <;> exact ⟨_, rfl, by decide, by decide⟩
        exact ⟨JE ns t w sl dk js (drT (drT T sl) 4) o8 o9 (some (.int (z + u))) (some (.str x)) (some (.str y)), by unfold JE; simp [hs, d6, hr, d7, hu], _, _, _, _, _, _, _, rfl, hj, hl, hx, hy, by omega, by omega⟩
      · exact ⟨JE ns t w sl dk js (drT T sl) o8 o9 (some (.int z)) (some (.str x)) (some (.str y)), by unfold JE; simp [hs, d6, hr], _, _, _, _, _, _, _, rfl, hj, hl, hx, hy, by omega, by omega⟩
    · exact ⟨JE ns t w sl dk js T o8 o9 (some (.int z)) (some (.str x)) (some (.str y)), by unfold JE; simp [hs], _, _, _, _, _, _, _, rfl, hj, hl, hx, hy, by omega, by omega⟩
  · rintro env ⟨js, T, o8, o9, z, x, y, rfl, hj, hl, hx, hy, z1, z2⟩
    have hlen : js.length < sizeLine := sz_lt (by omega)
    exact ⟨JE ns t w sl dk (js ++ [(x, y, z)]) T o8 o9 (some (.int z)) (some (.str x)) (some (.str y)), by unfold JE; simp [hlen, jt], _, _, _, _, _, _, _, rfl, hj.snoc hx hy z1 z2, by simp [hl]⟩
end
theorem v_joinings (T : Tp) {ns : List Str} {t : Int} (h1 : ns.length ≤ 14) (ht : 0 ≤ t ∧ t ≤ 1000) : ∃ js T', φ__law_joinings [tp T, .lst .l (ns.map D.str), .int t] = .ok (.lst .m (js.map jt)) [tp T'] ∧ JOk ns js ∧ js.length ≤ 28 := by
  have e1 := v_draw T (m := 6) (by decide) (by decide)
  have p1 := drV_0 (t := T) (m := 6) (by decide)
  have q1 := drV_lt (t := T) (m := 6) (by decide)
  obtain ⟨w, w1, w2, w3⟩ : ∃ w : Int, atI [D.int 3, .int 3, .int 12, .int 12, .int 12, .int 400000000000] (drV T 6) = some (.int w) ∧ 0 < w ∧ w ≤ 400000000000 := by
    generalize drV T 6 = r1 at *
    have : r1 = 0 ∨ r1 = 1 ∨ r1 = 2 ∨ r1 = 3 ∨ r1 = 4 ∨ r1 = 5 := by omega
    rcases this with h | h | h | h | h | h <;> subst h <;> exact ⟨_, rfl, by decide, by decide⟩
  have hc := lc_ex (vs := [6]) (g := gSet 6) (ce := cTup (cCons (cGet 6) (cCons (c2 pSub (cCall φ__law_draw (aOw (cMv 0) (some 0) (aRo (c2 pMulI (cK (.int 2)) (cVar 4)) aNil))) (cVar 4)) cNil)))
    (Iv := fun env => ∃ T, env = [some (tp T), some (.lst .l (ns.map D.str)), some (.int t), some (.lst .m []), some (.int w), none, none, none, none, none, none, none, none])
    (Y := fun d y => ∃ (s : Str) (n : Int), d = .str s ∧ y = .tup [.str s, .int n] ∧ (-w ≤ n ∧ n < w)) (ds := ns.map D.str) (env := [some (tp (drT T 6)), some (.lst .l (ns.map D.str)), some (.int t), some (.lst .m []), some (.int w), none, none, none, none, none, none, none, none]) ⟨_, rfl⟩ (by
      rintro d hd env ⟨T, rfl⟩
      obtain ⟨s, hs, rfl⟩ := List.mem_map.mp hd
      have e2 := v_draw T (m := 2 * w) (by omega) (by omega)
      have p2 := drV_0 (t := T) (m := 2 * w) (by omega)
      have q2 := drV_lt (t := T) (m := 2 * w) (by omega)
      refine ⟨[some (tp T), some (.lst .l (ns.map D.str)), some (.int t), some (.lst .m []), some (.int w), none, some (.str s), none, none, none, none, none, none], .tup [.str s, .int (drV T (2 * w) - w)],
        [some (tp (drT T (2 * w))), some (.lst .l (ns.map D.str)), some (.int t), some (.lst .m []), some (.int w), none, some (.str s), none, none, none, none, none, none], rfl, rfl, ?_, ⟨s, _, rfl, rfl, by omega, by omega⟩, _, rfl⟩
      have hb : w < 18446744073709551616 := by omega
      have hb2 : -18446744073709551616 < w := by omega
      simp [e2, hb, hb2])
  obtain ⟨ys, env2, k1, ⟨T2, rfl⟩, k3⟩ := hc
  obtain ⟨i1, ps, i2, i3, i4⟩ := pairs_Y (P := fun n => -w ≤ n ∧ n < w) k3
  have hd : pDictP [.lst .m ys] = some (.dct .m (mkD ps).1 (mkD ps).2) := by
    show (if imms ys = true then (pairsD ys).map _ else none) = _
    rw [if_pos i1, i2]; rfl
  have hk : ∀ s ∈ ns, ∃ n : Int, ixD (.dct .m (mkD ps).1 (mkD ps).2) (.str s) = some (.int n) ∧ -w ≤ n ∧ n < w := fun s hs => by
    obtain ⟨p, hp, e⟩ := i4 s hs
    obtain ⟨x, hx, n, rfl, hn⟩ := mk_look (P := fun x => ∃ n : Int, x = .int n ∧ (-w ≤ n ∧ n < w)) i3 p hp
    rw [e] at hx
    exact ⟨n, hx, hn⟩
  generalize D.dct .m (mkD ps).1 (mkD ps).2 = dk at hd hk
  have e3 := v_draw T2 (m := 4) (by decide) (by decide)
  have p3 := drV_0 (t := T2) (m := 4) (by decide)
  have q3 := drV_lt (t := T2) (m := 4) (by decide)
  obtain ⟨sl, s1, s2, s3⟩ : ∃ sl : Int, atI [D.int 0, .int 0, .int 3, .int 12] (drV T2 4) = some (.int sl) ∧ 0 ≤ sl ∧ sl ≤ 12 := by
    generalize drV T2 4 = r3 at *
    have : r3 = 0 ∨ r3 = 1 ∨ r3 = 2 ∨ r3 = 3 := by omega
    rcases this with h | h | h | h <;> subst h <;> exact ⟨_, rfl, by decide, by decide⟩
  have e4 := v_draw (drT T2 4) (m := 2 * ns.length + 1) (by omega) (by omega)
  have p4 := drV_0 (t := drT T2 4) (m := 2 * ns.length + 1) (by omega)
  have q4 := drV_lt (t := drT T2 4) (m := 2 * ns.length + 1) (by omega)
  generalize drV (drT T2 4) (2 * ns.length + 1) = r4 at e4 p4 q4
  have hr := e_rng r4 (by omega) (by omega)
  have hloop := tri_for (f := fun i : Nat => D.int (i : Nat)) (g := gSet 8) (body := l__law_joinings_1) (P := fun rest env => ∃ k, JP ns t w sl dk k env ∧ k + rest.length = r4.toNat) (G := fun _ rest env => ∃ k, JP ns t w sl dk k env ∧ k + rest.length + 1 = r4.toNat)
    (fun x xs env ⟨k, ⟨js, T, o8, o9, o10, o11, o12, e, hj, hl⟩, hk'⟩ => ⟨env.set 8 (some (.int x)), rfl, k, ⟨js, T, some (.int x), o9, o10, o11, o12, by rw [e]; rfl, hj, hl⟩, by simp at hk'; omega⟩)
    (fun x xs env ⟨k, hp, hk'⟩ => by
      obtain ⟨env', a1, a2⟩ := v_join_step (by omega) h1 ht ⟨w2, w3⟩ ⟨s2, s3⟩ hk (k := k) (by omega) env hp
      exact ⟨env', a1, k + 1, a2, by omega⟩) (List.range r4.toNat) (JE ns t w sl dk [] (drT (drT T2 4) (2 * ns.length + 1)) none none none none none) ⟨0, ⟨[], _, _, _, _, _, _, rfl, ⟨fun _ z => (nomatch z), fun _ z => (nomatch z), fun _ z => (nomatch z), fun _ z => (nomatch z)⟩, rfl⟩, by simp⟩
  obtain ⟨env3, f1, k, ⟨js, T5, o8, o9, o10, o11, o12, rfl, hj, hl⟩, hkk⟩ := hloop
  refine ⟨js, T5, ?_, hj, by simp at hkk; omega⟩
  have hz : ns.length ≤ sizeLine := sz_ok (by omega)
  unfold φ__law_joinings fnRun b__law_joinings
  unfold JE at f1
  simp only [List.map_nil] at f1
  simp [fnEnv, fnEnd, outsOf, e1, w1, hz, k1, hd, e3, s1, e4, hr, f1]
end VS

set_option maxRecDepth 100000
set_option maxHeartbeats 0
namespace VS
open PySem L2 SeqAt
/-! ### rows -/
abbrev Rw := Str × Str × Int × Int × Int
def rt (r : Rw) : D := .tup [.str r.1, .str r.2.1, .int r.2.2.1, .int r.2.2.2.1, .int r.2.2.2.2]
@[simp] theorem imm_rt (j : Rw) : (rt j).imm = true := rfl
@[simp] theorem lend_rt (j : Rw) : (rt j).lend = rt j := rfl
@[simp] theorem imms_rts : ∀ js : List Rw, imms (js.map rt) = true
  | [] => rfl
  | j :: js => by simp [imms_rts js]
@[simp] theorem lends_rts : ∀ js : List Rw, lends (js.map rt) = js.map rt
  | [] => rfl
  | j :: js => by simp [lends_rts js]
@[simp] theorem nol_rt (j : Rw) : (rt j).nol = true := rfl
@[simp] theorem nols_rts : ∀ js : List Rw, nols (js.map rt) = true
  | [] => rfl
  | j :: js => by simp [nols_rts js]
theorem eqOks_rts (n : Nat) : ∀ js : List Rw, eqOks (n + 1) (js.map rt) = true
  | [] => rfl
  | j :: js => by simp [eqOks, eqOks_rts n js, rt, eqOk]
theorem ne_rts (g : Fl) (js : List Rw) : pNe (.lst g (js.map rt)) (.lst .m []) = some (.bl (!js.isEmpty)) := by
  unfold pNe
  have h : eqOk 40 (.lst g (js.map rt)) = true := eqOks_rts 38 js
  have h2 : eqOk 40 (.lst .m []) = true := rfl
  rw [h, h2]
  cases js <;> rfl
theorem at_rt {js : List Rw} {r : Int} (h0 : 0 ≤ r) (h1 : r < js.length) : ∃ j, j ∈ js ∧ atI (js.map rt) r = some (rt j) := by
  obtain ⟨x, m, _, e⟩ := atI_map (f := rt) h0 h1
  exact ⟨x, m, e⟩
structure ROk (ns : List Str) (B : Int) (js : List Rw) : Prop where
  one : ∀ j ∈ js, j.1 ∈ ns
  other : ∀ j ∈ js, j.2.1 ∈ ns
  lo : ∀ j ∈ js, -1000000000000 ≤ j.2.2.1
  hi : ∀ j ∈ js, j.2.2.1 ≤ 1000000000000
  b0 : ∀ j ∈ js, 0 ≤ j.2.2.2.1
  be : ∀ j ∈ js, j.2.2.2.1 < j.2.2.2.2
  eB : ∀ j ∈ js, j.2.2.2.2 ≤ B
theorem ROk.snoc {ns : List Str} {B B' : Int} {js : List Rw} (h : ROk ns B js) {x y : Str} {z b e : Int} (hx : x ∈ ns) (hy : y ∈ ns) (h1 : -1000000000000 ≤ z) (h2 : z ≤ 1000000000000) (hb : 0 ≤ b) (hbe : b < e) (he : e ≤ B') (hB : B ≤ B') : ROk ns B' (js ++ [(x, y, z, b, e)]) := by
  have go : ∀ {P : Rw → Prop}, (∀ j ∈ js, P j) → P (x, y, z, b, e) → ∀ j ∈ js ++ [(x, y, z, b, e)], P j := fun h1 h2 j hj => by
    rcases List.mem_append.mp hj with q | q
    · exact h1 j q
    · simp at q; subst q; exact h2
  exact ⟨go h.one hx, go h.other hy, go h.lo h1, go h.hi h2, go h.b0 hb, go h.be hbe, go (fun j hj => Int.le_trans (h.eB j hj) hB) he⟩
section
variable (ns : List Str) (t : Int)
def RE (js : List Rw) (T : Tp) (o7 o8 : Option D) (x y : Str) (z : Int) : Env := [some (tp T), some (.lst .l (ns.map D.str)), some (.int t), some (.lst .m (js.map rt)), some (.str x), some (.str y), some (.int z), o7, o8]
def RP0 (k : Nat) (env : Env) : Prop := ∃ js T o4 o5 o6 o7 o8, env = [some (tp T), some (.lst .l (ns.map D.str)), some (.int t), some (.lst .m (js.map rt)), o4, o5, o6, o7, o8] ∧ ROk ns (10 + 10000010 * k) js ∧ js.length = k
def RP (k : Nat) (j : Jn) (env : Env) : Prop := ∃ js T o7 o8, env = RE ns t js T o7 o8 j.1 j.2.1 j.2.2 ∧ ROk ns (10 + 10000010 * k) js ∧ js.length = k
def RQ1 (k : Nat) (j : Jn) (env : Env) : Prop := ∃ js T b o8, env = RE ns t js T (some (.int b)) o8 j.1 j.2.1 j.2.2 ∧ ROk ns (10 + 10000010 * k) js ∧ js.length = k ∧ 0 ≤ b ∧ b ≤ 10 + 10000010 * k
def RQ2 (k : Nat) (j : Jn) (env : Env) : Prop := ∃ js T b e, env = RE ns t js T (some (.int b)) (some (.int e)) j.1 j.2.1 j.2.2 ∧ ROk ns (10 + 10000010 * k) js ∧ js.length = k ∧ 0 ≤ b ∧ b < e ∧ e ≤ 10 + 10000010 * (k + 1)
variable {ns t}
theorem v_rows_step {k : Nat} {j : Jn} (hx : j.1 ∈ ns) (hy : j.2.1 ∈ ns) (hz1 : -1000000000000 ≤ j.2.2) (hz2 : j.2.2 ≤ 1000000000000) (hk : k ≤ 100) : Tri (RP ns t k j) l__law_rows_1 (RP0 ns t (k + 1)) := by
  unfold l__law_rows_1
  refine tri_seq (R := RQ1 ns t k j) ?_ (tri_seq (R := RQ1 ns t k j) ?_ (tri_seq (R := RQ2 ns t k j) ?_ (tri_seq (R := RQ2 ns t k j) ?_ ?_)))
  · rintro env ⟨js, T, o7, o8, rfl, hj, hl⟩
    have d := v_draw T (m := 10) (by decide) (by decide)
    have z0 := drV_0 (t := T) (m := 10) (by decide)
    have z1 := drV_lt (t := T) (m := 10) (by decide)
    exact ⟨RE ns t js (drT T 10) (some (.int (drV T 10))) o8 j.1 j.2.1 j.2.2, by unfold RE; simp [d], _, _, _, _, rfl, hj, hl, z0, by omega⟩
  · rintro env ⟨js, T, b, o8, rfl, hj, hl, b0, b1⟩
    have hne := ne_rts .m js
    have d := v_draw T (m := 3) (by decide) (by decide)
    by_cases hjs : js = []
    · subst hjs
      refine ⟨RE ns t [] T (some (.int b)) o8 j.1 j.2.1 j.2.2, ?_, _, _, _, _, rfl, hj, hl, b0, b1⟩
      unfold RE
      simp only [List.map_nil, List.isEmpty_nil] at hne
      simp [hne]
    · have hje : js.isEmpty = false := by simpa using hjs
      rw [hje] at hne
      by_cases h3 : drV T 3 = 0
      · have hjl : (0 : Int) < js.length := by have := List.length_pos_iff.mpr hjs; omega
        have d4 := v_draw (drT T 3) hjl (by omega)
        obtain ⟨r, hm, g⟩ := at_rt (drV_0 (t := drT T 3) hjl) (drV_lt (t := drT T 3) hjl)
        have d2 := v_draw (drT (drT T 3) js.length) (m := 2) (by decide) (by decide)
        have z0 := drV_0 (t := drT (drT T 3) js.length) (m := 2) (by decide)
        have z1 := drV_lt (t := drT (drT T 3) js.length) (m := 2) (by decide)
        obtain ⟨u, hu, u0, u1⟩ : ∃ u, atI [D.str r.1, .str r.2.1, .int r.2.2.1, .int r.2.2.2.1, .int r.2.2.2.2] (3 + drV (drT (drT T 3) js.length) 2) = some (.int u) ∧ 0 ≤ u ∧ u ≤ 10 + 10000010 * (k : Int) := by
          have a1 := hj.b0 r hm; have a2 := hj.be r hm; have a3 := hj.eB r hm
          generalize drV (drT (drT T 3) js.length) 2 = q at *
          have : q = 0 ∨ q = 1 := by omega
          rcases this with z | z <;> subst z
          · exact ⟨r.2.2.2.1, rfl, a1, by omega⟩
          · exact ⟨r.2.2.2.2, rfl, by omega, by omega⟩
        exact ⟨RE ns t js (drT (drT (drT T 3) js.length) 2) (some (.int u)) o8 j.1 j.2.1 j.2.2, by unfold RE; simp [hne, d, h3, d4, g, rt, d2, hu], _, _, _, _, rfl, hj, hl, u0, u1⟩
      · exact ⟨RE ns t js (drT T 3) (some (.int b)) o8 j.1 j.2.1 j.2.2, by unfold RE; simp [hne, d, h3], _, _, _, _, rfl, hj, hl, b0, b1⟩
  · rintro env ⟨js, T, b, o8, rfl, hj, hl, b0, b1⟩
    have d1 := v_draw T (m := 6) (by decide) (by decide)
    have x0 := drV_0 (t := T) (m := 6) (by decide)
    have x1 := drV_lt (t := T) (m := 6) (by decide)
    have d2 := v_draw (drT T 6) (m := 6) (by decide) (by decide)
    have y0 := drV_0 (t := drT T 6) (m := 6) (by decide)
    have y1 := drV_lt (t := drT T 6) (m := 6) (by decide)
    have d3 := v_draw (drT (drT T 6) 6) (m := 4) (by decide) (by decide)
    have z0 := drV_0 (t := drT (drT T 6) 6) (m := 4) (by decide)
    have z1 := drV_lt (t := drT (drT T 6) 6) (m := 4) (by decide)
    obtain ⟨u, hu, u0, u1⟩ : ∃ u, atI [D.int (1 + drV T 6), .int (1 + drV (drT T 6) 6), .int 1, .int 10000000] (drV (drT (drT T 6) 6) 4) = some (.int u) ∧ 0 < u ∧ u ≤ 10000000 := by
      generalize drV (drT (drT T 6) 6) 4 = q at *
      have : q = 0 ∨ q = 1 ∨ q = 2 ∨ q = 3 := by omega
      rcases this with z | z | z | z <;> subst z <;> exact ⟨_, rfl, by omega, by omega⟩
    exact ⟨RE ns t js (drT (drT (drT T 6) 6) 4) (some (.int b)) (some (.int (b + u))) j.1 j.2.1 j.2.2, by unfold RE; simp [d1, d2, d3, hu], _, _, _, _, rfl, hj, hl, b0, by omega, by omega⟩
  · rintro env ⟨js, T, b, e, rfl, hj, hl, b0, be, e1⟩
    have hne := ne_rts .m js
    have d := v_draw T (m := 4) (by decide) (by decide)
    by_cases hjs : js = []
    · subst hjs
      refine ⟨RE ns t [] T (some (.int b)) (some (.int e)) j.1 j.2.1 j.2.2, ?_, _, _, _, _, rfl, hj, hl, b0, be, e1⟩
      unfold RE
      simp only [List.map_nil, List.isEmpty_nil] at hne
      simp [hne]
    · have hje : js.isEmpty = false := by simpa using hjs
      rw [hje] at hne
      by_cases h3 : drV T 4 = 0
      · have hjl : (0 : Int) < js.length := by have := List.length_pos_iff.mpr hjs; omega
        have d4 := v_draw (drT T 4) hjl (by omega)
        obtain ⟨r, hm, g⟩ := at_rt (drV_0 (t := drT T 4) hjl) (drV_lt (t := drT T 4) hjl)
        have a3 := hj.eB r hm
        have g4 : atI [D.str r.1, .str r.2.1, .int r.2.2.1, .int r.2.2.2.1, .int r.2.2.2.2] 4 = some (.int r.2.2.2.2) := rfl
        exact ⟨RE ns t js (drT (drT T 4) js.length) (some (.int b)) (some (.int (if b + 1 < r.2.2.2.2 then r.2.2.2.2 else b + 1))) j.1 j.2.1 j.2.2, by unfold RE; simp [hne, d, h3, d4, g, rt, g4], _, _, _, _, rfl, hj, hl, b0, by split <;> omega, by split <;> omega⟩
      · exact ⟨RE ns t js (drT T 4) (some (.int b)) (some (.int e)) j.1 j.2.1 j.2.2, by unfold RE; simp [hne, d, h3], _, _, _, _, rfl, hj, hl, b0, be, e1⟩
  · rintro env ⟨js, T, b, e, rfl, hj, hl, b0, be, e1⟩
    have hlen : js.length < sizeLine := sz_lt (by omega)
    exact ⟨RE ns t (js ++ [(j.1, j.2.1, j.2.2, b, e)]) T (some (.int b)) (some (.int e)) j.1 j.2.1 j.2.2, by unfold RE; simp [hlen, rt], _, _, _, _, _, _, _, rfl, hj.snoc hx hy hz1 hz2 b0 be (by omega) (by omega), by simp [hl]⟩
end
theorem v_rows (T : Tp) {ns : List Str} {t : Int} (h1 : ns.length ≤ 14) (ht : 0 ≤ t ∧ t ≤ 1000) : ∃ js T', φ__law_rows [tp T, .lst .l (ns.map D.str), .int t] = .ok (.lst .m (js.map rt)) [tp T'] ∧ ROk ns 300000000 js ∧ js.length ≤ 28 := by
  obtain ⟨js, T1, e1, hj, hl⟩ := v_joinings T h1 ht
  have hloop := tri_for (f := jt) (g := gTupD 3 (gConsD (gSet 4) (gConsD (gSet 5) (gConsD (gSet 6) gNilD)))) (body := l__law_rows_1) (P := fun rest env => ∃ k, RP0 ns t k env ∧ k + rest.length = js.length ∧ ∀ j ∈ rest, j ∈ js) (G := fun j rest env => ∃ k, RP ns t k j env ∧ k + rest.length + 1 = js.length ∧ j ∈ js ∧ ∀ j ∈ rest, j ∈ js)
    (fun x xs env ⟨k, ⟨rs, T, o4, o5, o6, o7, o8, e, hr, hk⟩, hkk, hm⟩ => ⟨RE ns t rs T o7 o8 x.1 x.2.1 x.2.2, by rw [e]; unfold RE; simp [jt], k, ⟨rs, T, o7, o8, rfl, hr, hk⟩, by simp at hkk; omega, hm x (by simp), fun j hj => hm j (by simp [hj])⟩)
    (fun x xs env ⟨k, hp, hkk, hx, hm⟩ => by
      obtain ⟨env', a1, a2⟩ := v_rows_step (hj.one x hx) (hj.other x hx) (hj.lo x hx) (hj.hi x hx) (k := k) (by omega) env hp
      exact ⟨env', a1, k + 1, a2, by omega, hm⟩) js [some (tp T1), some (.lst .l (ns.map D.str)), some (.int t), some (.lst .m (([] : List Rw).map rt)), none, none, none, none, none]
    ⟨0, ⟨[], _, _, _, _, _, _, rfl, ⟨fun _ z => (nomatch z), fun _ z => (nomatch z), fun _ z => (nomatch z), fun _ z => (nomatch z), fun _ z => (nomatch z), fun _ z => (nomatch z), fun _ z => (nomatch z)⟩, rfl⟩, by simp, fun _ h => h⟩
  obtain ⟨env3, f1, k, ⟨rs, T5, o4, o5, o6, o7, o8, rfl, hr, hk⟩, hkk, _⟩ := hloop
  simp at hkk
  refine ⟨rs, T5, ?_, ⟨hr.one, hr.other, hr.lo, hr.hi, hr.b0, hr.be, fun j hj => by have := hr.eB j hj; omega⟩, by omega⟩
  unfold φ__law_rows fnRun b__law_rows
  simp only [List.map_nil] at f1
  simp [fnEnv, fnEnd, outsOf, e1, f1]
end VS

set_option maxRecDepth 100000
set_option maxHeartbeats 0
namespace VS
open PySem L2 SeqAt
theorem lc_flt {α : Type} {f : α → D} {vs : List Nat} {g : D → Env → Option Env} {ct : CT} {ce : CE} {env : Env} {y : α → D} {t : α → Bool} : ∀ {xs : List α}, (∀ x ∈ xs, ∃ env1, g (f x) env = some env1 ∧ env1.length = env.length ∧ ct env1 = .ok (t x) env1 ∧ (t x = true → ce env1 = .ok (y x) env1) ∧ wipeE env1 vs = env) →
    lcRun vs g ct ce (xs.map f) env = some ((xs.filter t).map y, env)
  | [], _ => rfl
  | d :: ds, h => by
    obtain ⟨env1, h1, h2, h3, h4, h5⟩ := h d (by simp)
    have ih := lc_flt (f := f) (vs := vs) (g := g) (ct := ct) (ce := ce) (env := env) (y := y) (t := t) (xs := ds) fun d hd => h d (by simp [hd])
    rw [List.map_cons]
    unfold lcRun
    cases ht : t d with
    | true => rw [ht] at h3; simp [h1, h2, h3, h4 ht, h5, ih, ht]
    | false => rw [ht] at h3; simp [h1, h2, h3, h5, ih, ht]
theorem lc_mp {α : Type} {f : α → D} {vs : List Nat} {g : D → Env → Option Env} {ce : CE} {env : Env} {y : α → D} {xs : List α} (h : ∀ x ∈ xs, ∃ env1, g (f x) env = some env1 ∧ env1.length = env.length ∧ ce env1 = .ok (y x) env1 ∧ wipeE env1 vs = env) :
    lcRun vs g cYes ce (xs.map f) env = some (xs.map y, env) := by
  have := lc_flt (f := f) (vs := vs) (g := g) (ct := cYes) (ce := ce) (env := env) (y := y) (t := fun _ => true) (xs := xs) fun x hx => by
    obtain ⟨env1, h1, h2, h3, h4⟩ := h x hx
    exact ⟨env1, h1, h2, rfl, fun _ => h3, h4⟩
  rw [this, List.filter_eq_self.mpr fun _ _ => rfl]
def takeD : D → D → Option D
  | .tup ds, .int i => atI ds i
  | .lst .m ds, .int i => atI ds i
  | _, _ => none
theorem takeD_r (d y : D) (env : Env) : (match d, y with
  | .tup ds, .int i => R.of (atI ds i) env
  | .lst .m ds, .int i => R.of (atI ds i) env
  | _, _ => .err) = R.of (takeD d y) env := by
  unfold takeD
  split <;> first | rfl | (split <;> first | rfl | simp_all)
@[simp] theorem e_take (ca cb : CE) (env : Env) : cTake ca cb env = (ca env).bind fun d env => (cb env).bind fun y env => R.of (takeD d y) env := by
  unfold cTake
  congr 1; funext d env; congr 1; funext y env
  exact takeD_r d y env
@[simp] theorem takeD_t (ds : List D) (i : Int) : takeD (.tup ds) (.int i) = atI ds i := (rfl)
@[simp] theorem takeD_l (ds : List D) (i : Int) : takeD (.lst .m ds) (.int i) = atI ds i := (rfl)
theorem seq_nx {c1 c2 : CS} {env env1 : Env} {o : O} (h1 : c1 env = .nx env1) (h2 : c2 env1 = o) : sSeq c1 c2 env = o := by rw [e_seq, h1]; exact h2
theorem fn_rt {n : Nat} {io : List Bool} {b : CS} {ds os : List D} {d : D} {env env0 : Env} (h1 : ds.length = io.length ∧ io.length ≤ n) (h0 : fnEnv n ds = env0) (hb : b env0 = .rt d env) (ho : outsOf io env = some os) : fnRun n io b ds = .ok d os := by
  unfold fnRun
  rw [if_pos h1, h0, hb]
  simp [fnEnd, ho]
theorem fn_nx {n : Nat} {io : List Bool} {b : CS} {ds os : List D} {env env0 : Env} (h1 : ds.length = io.length ∧ io.length ≤ n) (h0 : fnEnv n ds = env0) (hb : b env0 = .nx env) (ho : outsOf io env = some os) : fnRun n io b ds = .ok .non os := by
  unfold fnRun
  rw [if_pos h1, h0, hb]
  simp [fnEnd, ho]
mutual
theorem pyEq_refl : ∀ {n : Nat} {d : D}, eqOk n d = true → pyEq d d = true
  | _, .non, _ => by unfold pyEq; rfl
  | _, .bl b, _ => by unfold pyEq; simp
  | _, .int i, _ => by unfold pyEq; simp
  | _, .str s, _ => by unfold pyEq; simp
  | n + 1, .lst g ds, h => by unfold eqOk at h; unfold pyEq; exact pyEqs_refl h
  | n + 1, .tup ds, h => by unfold eqOk at h; unfold pyEq; exact pyEqs_refl h
  | 0, .lst g ds, h => by simp [eqOk] at h
  | 0, .tup ds, h => by simp [eqOk] at h
  | _, .ty _, h => by simp [eqOk] at h
  | _, .dct _ _ _, h => by simp [eqOk] at h
  | _, .obj _ _ _ _, h => by simp [eqOk] at h
theorem pyEqs_refl : ∀ {n : Nat} {ds : List D}, eqOks n ds = true → pyEqs ds ds = true
  | _, [], _ => by unfold pyEqs; rfl
  | n, d :: ds, h => by
    unfold eqOks at h
    have := Bool.and_eq_true_iff.mp h
    unfold pyEqs
    rw [pyEq_refl this.1, pyEqs_refl this.2]; rfl
end
theorem ne_self {g g' : Fl} {ds : List D} (h : eqOks 39 ds = true) : pNe (.lst g ds) (.lst g' ds) = some (.bl false) := by
  have e : eqOk 40 (.lst g ds) = true := by unfold eqOk; exact h
  have e' : eqOk 40 (.lst g' ds) = true := by unfold eqOk; exact h
  have p : pyEq (.lst g ds) (.lst g' ds) = true := by unfold pyEq; exact pyEqs_refl h
  unfold pNe; rw [e, e', p]; rfl
theorem eq_self {g g' : Fl} {ds : List D} (h : eqOks 39 ds = true) : pEq (.lst g ds) (.lst g' ds) = some (.bl true) := by
  have e : eqOk 40 (.lst g ds) = true := by unfold eqOk; exact h
  have e' : eqOk 40 (.lst g' ds) = true := by unfold eqOk; exact h
  have p : pyEq (.lst g ds) (.lst g' ds) = true := by unfold pyEq; exact pyEqs_refl h
  unfold pEq; rw [e, e', p]; rfl
theorem numD_mp {α : Type} (f : α → D) : ∀ (k : Nat) (xs : List α), numD k (xs.map f) = (xs.zipIdx k).map fun p => D.tup [.int (p.2 : Nat), f p.1]
  | _, [] => rfl
  | k, n :: ns => by simp [numD, numD_mp f (k + 1) ns]
end VS

set_option maxRecDepth 100000
set_option maxHeartbeats 0
namespace VS
open PySem L2 SeqAt
@[simp] theorem eq_nn : pEq .non .non = some (.bl true) := (rfl)
/-- lent data of no great depth -/
def plain : Nat → D → Bool
  | 0, _ => false
  | n + 1, .non => true
  | n + 1, .bl _ => true
  | n + 1, .int _ => true
  | n + 1, .str _ => true
  | n + 1, .tup ds => decide (ds.length ≤ 1000000) && ds.all (plain n)
  | n + 1, .lst .l ds => decide (ds.length ≤ 1000000) && ds.all (plain n)
  | _, _ => false
theorem imms_all' {ds : List D} (h : ∀ d ∈ ds, d.imm = true) : imms ds = true := by rw [imms_all, List.all_eq_true]; exact h
theorem lends_all' : ∀ {ds : List D}, (∀ d ∈ ds, d.lend = d) → lends ds = ds
  | [], _ => rfl
  | d :: ds, h => by
    have ih := lends_all' (ds := ds) fun d hd => h d (List.mem_cons_of_mem _ hd)
    simp [h d (by simp), ih]
theorem plain_ok : ∀ {n : Nat} {d : D}, plain n d = true → d.imm = true ∧ d.lend = d
  | 0, _, h => by simp [plain] at h
  | n + 1, d, h => by
    have hs : ∀ ds : List D, ds.all (plain n) = true → imms ds = true ∧ lends ds = ds := fun ds h =>
      ⟨imms_all' fun d hd => (plain_ok (List.all_eq_true.mp h d hd)).1, lends_all' fun d hd => (plain_ok (List.all_eq_true.mp h d hd)).2⟩
    cases d with
    | tup ds => simp only [plain, Bool.and_eq_true] at h; have := hs ds h.2; simp [this]
    | lst g ds => cases g <;> simp only [plain, Bool.and_eq_true] at h <;> first | (cases h; done) | (have := hs ds h.2; simp [this])
    | non => simp
    | bl b => simp
    | int b => simp
    | str b => simp
    | _ => simp [plain] at h
theorem zipD_self : ∀ ds : List D, zipD ds ds = ds.map fun d => .tup [d, d]
  | [] => rfl
  | d :: ds => by simp [zipD, zipD_self ds]
theorem same_refl : ∀ {n : Nat} {d : D}, plain n d = true → φ__law_same n [d, d] = .ok (.bl true) []
  | 0, _, h => by simp [plain] at h
  | n + 1, d, h => by
    have lc : ∀ (d0 : D) (ds : List D), ds.all (plain n) = true → lcRun [2, 3] (gTupD 2 (gConsD (gSet 2) (gConsD (gSet 3) gNilD))) cYes (cCall (φ__law_same n) (aRo (cVar 2) (aRo (cVar 3) aNil))) (zipD ds ds) [some d0, some d0, none, none] = some ((ds.map fun _ => true).map D.bl, [some d0, some d0, none, none]) := fun d0 ds hd => by
      rw [zipD_self]
      have := lc_map (vs := [2, 3]) (g := gTupD 2 (gConsD (gSet 2) (gConsD (gSet 3) gNilD))) (ce := cCall (φ__law_same n) (aRo (cVar 2) (aRo (cVar 3) aNil))) (env := [some d0, some d0, none, none]) (y := fun _ => .bl true) (ds := ds.map fun d => .tup [d, d]) fun x hx => by
        obtain ⟨d, hm, rfl⟩ := List.mem_map.mp hx
        have hp := List.all_eq_true.mp hd d hm
        have ih := same_refl hp
        obtain ⟨h1, h2⟩ := plain_ok hp
        exact ⟨[some d0, some d0, some d, some d], by simp, by simp, by simp [h2, ih], by simp⟩
      rw [this]; simp
    have fin : ∀ (d0 : D) (ds : List D), d.imm = true → True := fun _ _ _ => trivial
    have al : ∀ ds : List D, (ds.map fun _ => true).all id = true := fun ds => by simp
    have im := (plain_ok h).1
    rw [φ__law_same]
    cases d with
    | tup ds =>
      simp only [plain, Bool.and_eq_true, decide_eq_true_eq] at h
      have hl := sz_le h.1
      have im' : imms ds = true := imms_all' fun d hd => (plain_ok (List.all_eq_true.mp h.2 d hd)).1
      have hz : zipP [.tup ds, .tup ds] = some (zipD ds ds) := by simp [zipP, im']
      have hzl : (zipD ds ds).length ≤ sizeLine := by rw [zipD_self]; simpa using hl
      simp [fnRun, b__law_same, fnEnv, fnEnd, outsOf, hz, hzl, lc _ ds h.2, -List.map_map, -List.map_const]
    | lst g ds =>
      cases g <;> simp only [plain, Bool.and_eq_true, decide_eq_true_eq] at h <;> first
        | (cases h; done)
        | (have hl := sz_le h.1
           have im' : imms ds = true := imms_all' fun d hd => (plain_ok (List.all_eq_true.mp h.2 d hd)).1
           have hz : zipP [.lst .l ds, .lst .l ds] = some (zipD ds ds) := by simp [zipP, im']
           have hzl : (zipD ds ds).length ≤ sizeLine := by rw [zipD_self]; simpa using hl
           simp [fnRun, b__law_same, fnEnv, fnEnd, outsOf, hz, hzl, lc _ ds h.2, -List.map_map, -List.map_const])
    | non => simp [fnRun, b__law_same, fnEnv, fnEnd, outsOf]
    | bl b => simp [fnRun, b__law_same, fnEnv, fnEnd, outsOf]
    | int b => simp [fnRun, b__law_same, fnEnv, fnEnd, outsOf]
    | str b => simp [fnRun, b__law_same, fnEnv, fnEnd, outsOf]
    | _ => simp [plain] at h
end VS

set_option maxRecDepth 100000
set_option maxHeartbeats 0
namespace VS
open PySem L2 SeqAt
/-- the numbers of those that stand -/
def stands (rs : List Rw) (z : Int) : List Nat := (rs.zipIdx.filter fun p => decide (p.1.2.2.2.1 ≤ z) && decide (z < p.1.2.2.2.2)).map (·.2)
def nD (n : Nat) : D := .int (n : Int)
theorem v_standing {rs : List Rw} {d : D} (h : Hold rt rs d) (hl : rs.length ≤ 1000) (z : Int) : φ_standing_at [d, .int z] = .ok (.lst .m ((stands rs z).map nD)) [] := by
  have hc := lc_flt (f := fun p : Rw × Nat => D.tup [.int (p.2 : Nat), rt p.1]) (vs := [2, 3]) (g := gTupD 2 (gConsD (gSet 2) (gConsD (gSet 3) gNilD))) (ct := cTt (cChain pLeG pLtG (cIdx (cVar 3) (cK (.int 3))) (cVar 1) (cIdx (cVar 3) (cK (.int 4))))) (ce := cGet 2)
    (env := [some d, some (.int z), none, none]) (y := fun p => nD p.2) (t := fun p => decide (p.1.2.2.2.1 ≤ z) && decide (z < p.1.2.2.2.2)) (xs := rs.zipIdx) (by
      rintro ⟨r, n⟩ _
      have g3 : atI [D.str r.1, .str r.2.1, .int r.2.2.1, .int r.2.2.2.1, .int r.2.2.2.2] 3 = some (.int r.2.2.2.1) := rfl
      have g4 : atI [D.str r.1, .str r.2.1, .int r.2.2.1, .int r.2.2.2.1, .int r.2.2.2.2] 4 = some (.int r.2.2.2.2) := rfl
      refine ⟨[some d, some (.int z), some (.int (n : Nat)), some (rt r)], by simp, rfl, ?_, fun _ => by simp [nD], by simp⟩
      by_cases h1 : r.2.2.2.1 ≤ z
      · by_cases h2 : z < r.2.2.2.2 <;> simp [rt, g3, g4, h1, h2]
      · simp [rt, g3, g4, h1])
  have hn := numD_mp rt 0 rs
  have hz : rs.length ≤ sizeLine := sz_ok (by omega)
  have hy : (List.filter (fun p : Rw × Nat => decide (p.1.2.2.2.1 ≤ z) && decide (z < p.1.2.2.2.2)) rs.zipIdx).map (fun p => nD p.2) = (stands rs z).map nD := by
    unfold stands; rw [List.map_map]; rfl
  rw [hy] at hc
  unfold φ_standing_at fnRun b_standing_at
  cases h with
  | l => simp [fnEnv, fnEnd, outsOf, hn, hz, hc]
  | t => simp [fnEnv, fnEnd, outsOf, hn, hz, hc]
theorem v_times {rs : List Rw} (hl : rs.length ≤ 100) : ∃ ts : List Int, φ__law_times [.lst .l (rs.map rt)] = .ok (.lst .m (ts.map D.int)) [] ∧ ts.length ≤ 1000 := by
  have loop := tri_for (f := rt) (g := gSet 2) (body := l__law_times_1) (P := fun rest env => ∃ (ms : List Int) (o : Option D), env = [some (.lst .l (rs.map rt)), some (.lst .m (ms.map D.int)), o] ∧ ms.length + 5 * rest.length ≤ 501)
    (G := fun r rest env => ∃ ms : List Int, env = [some (.lst .l (rs.map rt)), some (.lst .m (ms.map D.int)), some (rt r)] ∧ ms.length + 5 * rest.length + 5 ≤ 501)
    (fun x xs env ⟨ms, o, e, h⟩ => ⟨_, by rw [e]; rfl, ms, rfl, by simp at h; omega⟩)
    (fun r rest env ⟨ms, e, h⟩ => by
      subst e
      have g3 : atI [D.str r.1, .str r.2.1, .int r.2.2.1, .int r.2.2.2.1, .int r.2.2.2.2] 3 = some (.int r.2.2.2.1) := rfl
      have g4 : atI [D.str r.1, .str r.2.1, .int r.2.2.1, .int r.2.2.2.1, .int r.2.2.2.2] 4 = some (.int r.2.2.2.2) := rfl
      have hz : ms.length + 4 ≤ sizeLine := sz_ok (by omega)
      have hz2 : ms.length + 4 < sizeLine := small1000 (by omega)
      by_cases h0 : 0 < r.2.2.2.1
      · refine ⟨[some (.lst .l (rs.map rt)), some (.lst .m ((ms ++ [r.2.2.2.1, r.2.2.2.2, r.2.2.2.2 - 1, r.2.2.2.1 + 1, r.2.2.2.1 - 1]).map D.int)), some (rt r)], ?_, _, _, rfl, by simp; omega⟩
        unfold l__law_times_1
        simp [rt, g3, g4, h0, hz, hz2]
      · refine ⟨[some (.lst .l (rs.map rt)), some (.lst .m ((ms ++ [r.2.2.2.1, r.2.2.2.2, r.2.2.2.2 - 1, r.2.2.2.1 + 1]).map D.int)), some (rt r)], ?_, _, _, rfl, by simp; omega⟩
        unfold l__law_times_1
        simp [rt, g3, g4, h0, hz, hz2]) rs [some (.lst .l (rs.map rt)), some (.lst .m [.int 0]), none] ⟨[0], none, rfl, by simp; omega⟩
  obtain ⟨env', k1, ms, o, rfl, k2⟩ := loop
  simp at k2
  refine ⟨sortU ms, ?_, by have := ddup_len ms; unfold sortU sortI; rw [List.length_mergeSort]; omega⟩
  unfold φ__law_times fnRun b__law_times
  have h4 : ms.length ≤ 4000 := by omega
  simp [fnEnv, fnEnd, outsOf, k1, h4]
theorem stands_range (rs : List Rw) (z : Int) : (List.range rs.length).filter (fun n => match rs[n]? with | some r => decide (r.2.2.2.1 ≤ z) && decide (z < r.2.2.2.2) | none => false) = stands rs z := by
  unfold stands
  have : ∀ (k : Nat) (qs : List Rw), (∀ i, qs[i]? = rs[k + i]?) → (List.range' k qs.length).filter (fun n => match rs[n]? with | some r => decide (r.2.2.2.1 ≤ z) && decide (z < r.2.2.2.2) | none => false) = ((qs.zipIdx k).filter fun p => decide (p.1.2.2.2.1 ≤ z) && decide (z < p.1.2.2.2.2)).map (·.2) := by
    intro k qs
    induction qs generalizing k with
    | nil => intro _; rfl
    | cons q qs ih =>
      intro h
      have h0 : rs[k]? = some q := by have := h 0; simpa using this.symm
      have h1 := ih (k + 1) fun i => by have := h (i + 1); rw [List.getElem?_cons_succ] at this; rw [this]; congr 1; omega
      rw [List.length_cons, List.range'_succ, List.zipIdx_cons, List.filter_cons, List.filter_cons]
      simp only [h0]
      split <;> simp [h1]
  have h2 := this 0 rs fun i => by rw [Nat.zero_add]
  rw [← h2, List.range_eq_range']
def rowOr (rs : List Rw) (n : Nat) : D := match rs[n]? with | some r => .tup [.str r.1, .str r.2.1, .int r.2.2.1] | none => .non
theorem v_at {rs : List Rw} (hl : rs.length ≤ 1000) (z : Int) : ∃ x, φ__law_at [.lst .l (rs.map rt), .int z] = .ok (.tup [.lst .m ((stands rs z).map nD), x]) [] ∧ x.nol = true := by
  have at_n : ∀ n : Nat, n < rs.length → ∃ r, rs[n]? = some r ∧ atI (rs.map rt) (n : Int) = some (rt r) := fun n hn => by
    refine ⟨rs[n], List.getElem?_eq_getElem hn, ?_⟩
    rw [atI_nat (by simpa using hn)]; simp [hn]
  have hc := lc_flt (f := nD) (vs := [3]) (g := gSet 3) (ct := tcAnd (tcNot (cTt (c2 pLtG (cVar 1) (cIdx (cIdx (cVar 0) (cVar 3)) (cK (.int 3)))))) (cTt (c2 pLtG (cVar 1) (cIdx (cIdx (cVar 0) (cVar 3)) (cK (.int 4)))))) (ce := cGet 3)
    (env := [some (.lst .l (rs.map rt)), some (.int z), none, none]) (y := nD) (t := fun n => match rs[n]? with | some r => decide (r.2.2.2.1 ≤ z) && decide (z < r.2.2.2.2) | none => false) (xs := List.range rs.length) (by
      intro n hn
      obtain ⟨r, e1, e2⟩ := at_n n (List.mem_range.mp hn)
      have g3 : atI [D.str r.1, .str r.2.1, .int r.2.2.1, .int r.2.2.2.1, .int r.2.2.2.2] 3 = some (.int r.2.2.2.1) := rfl
      have g4 : atI [D.str r.1, .str r.2.1, .int r.2.2.1, .int r.2.2.2.1, .int r.2.2.2.2] 4 = some (.int r.2.2.2.2) := rfl
      refine ⟨[some (.lst .l (rs.map rt)), some (.int z), none, some (nD n)], by simp, rfl, ?_, fun _ => by simp [nD], by simp⟩
      simp only [e1]
      by_cases h1 : z < r.2.2.2.1
      · have : ¬ r.2.2.2.1 ≤ z := by omega
        simp [nD, e2, rt, g3, g4, h1, this]
      · have h1' : r.2.2.2.1 ≤ z := by omega
        by_cases h2 : z < r.2.2.2.2 <;> simp [nD, e2, rt, g3, g4, h1, h1', h2])
  have same := stands_range rs z
  rw [same] at hc
  have hr := e_rng rs.length (by omega) (by omega)
  have hmem : ∀ n ∈ stands rs z, n < rs.length := fun n hn => by
    rw [← same] at hn
    exact List.mem_range.mp (List.mem_filter.mp hn).1
  have hz : rs.length ≤ sizeLine := sz_ok (by omega)
  have hsl : (stands rs z).length ≤ sizeLine := by
    have : (stands rs z).length ≤ rs.length := by unfold stands; rw [List.length_map]; have := List.length_filter_le (fun p : Rw × Nat => decide (p.1.2.2.2.1 ≤ z) && decide (z < p.1.2.2.2.2)) rs.zipIdx; rw [List.length_zipIdx] at this; exact this
    omega
  have hc2 := lc_mp (f := nD) (vs := [3]) (g := gSet 3) (ce := cSl (cIdx (cVar 0) (cVar 3)) pNo (pAt (cK (.int 3))))
    (env := [some (.lst .l (rs.map rt)), some (.int z), some (.lst .m ((stands rs z).map nD)), none]) (y := rowOr rs) (xs := stands rs z) (by
      intro n hn
      obtain ⟨r, e1, e2⟩ := at_n n (hmem n hn)
      have c3 : cutD [D.str r.1, .str r.2.1, .int r.2.2.1, .int r.2.2.2.1, .int r.2.2.2.2] none (some 3) = [.str r.1, .str r.2.1, .int r.2.2.1] := rfl
      refine ⟨[some (.lst .l (rs.map rt)), some (.int z), some (.lst .m ((stands rs z).map nD)), some (nD n)], by simp, rfl, ?_, by simp⟩
      have e3 : rowOr rs n = .tup [.str r.1, .str r.2.1, .int r.2.2.1] := by unfold rowOr; rw [e1]
      rw [e3]
      simp [nD, e2, rt, c3])
  have im : imms ((stands rs z).map nD) = true := imms_map (fun _ => rfl) _
  have nl : nols ((stands rs z).map nD) = true := nols_map (fun _ => rfl) _
  have hr' : rngItems [.int (rs.length : Int)] = some ((List.range rs.length).map nD) := by rw [hr]; rfl
  have s1 : (sAsg (cLc (iRange1 (cCons (cL pLen (cCons (cVar 0) cNil)) cNil)) [3] (gSet 3) (tcAnd (tcNot (cTt (c2 pLtG (cVar 1) (cIdx (cIdx (cVar 0) (cVar 3)) (cK (.int 3)))))) (cTt (c2 pLtG (cVar 1) (cIdx (cIdx (cVar 0) (cVar 3)) (cK (.int 4)))))) (cGet 3)) (gSet 2)) [some (.lst .l (rs.map rt)), some (.int z), none, none] = .nx [some (.lst .l (rs.map rt)), some (.int z), some (.lst .m ((stands rs z).map nD)), none] := by
    simp [hr', hc, hz, hsl]
  have s2 : (sRet (cTup (cLate 2 (cCons (cLc (iAnyD (cVar 2)) [3] (gSet 3) cYes (cSl (cIdx (cVar 0) (cVar 3)) pNo (pAt (cK (.int 3))))) cNil)))) [some (.lst .l (rs.map rt)), some (.int z), some (.lst .m ((stands rs z).map nD)), none] = .rt (.tup [.lst .m ((stands rs z).map nD), .lst .m ((stands rs z).map (rowOr rs))])  [some (.lst .l (rs.map rt)), some (.int z), none, none] := by
    simp [hc2, hz, hsl, im]
  refine ⟨.lst .m ((stands rs z).map (rowOr rs)), ?_, ?_⟩
  · have e : b__law_at [some (.lst .l (rs.map rt)), some (.int z), none, none] = .rt (.tup [.lst .m ((stands rs z).map nD), .lst .m ((stands rs z).map (rowOr rs))]) [some (.lst .l (rs.map rt)), some (.int z), none, none] := by
      unfold b__law_at
      rw [e_seq, s1]
      exact s2
    exact fn_rt ⟨rfl, by decide⟩ rfl e rfl
  · have : nols ((stands rs z).map (rowOr rs)) = true := nols_map (fun n => by unfold rowOr; split <;> rfl) _
    simp [this]
end VS

set_option maxRecDepth 100000
set_option maxHeartbeats 0
namespace VS
open PySem L2 SeqAt
theorem stands_le (rs : List Rw) (z : Int) : (stands rs z).length ≤ rs.length := by
  unfold stands
  rw [List.length_map]
  have := List.length_filter_le (fun p : Rw × Nat => decide (p.1.2.2.2.1 ≤ z) && decide (z < p.1.2.2.2.2)) rs.zipIdx
  rwa [List.length_zipIdx] at this
theorem plain_nums (xs : List Nat) (h : xs.length ≤ 1000000) : plain 3 (.lst .l (xs.map nD)) = true := by
  simp only [plain, Bool.and_eq_true, List.length_map, decide_eq_true_eq]
  exact ⟨h, List.all_eq_true.mpr fun d hd => by obtain ⟨x, _, rfl⟩ := List.mem_map.mp hd; rfl⟩
@[simp] theorem lends_nums (xs : List Nat) : lends (xs.map nD) = xs.map nD := lends_map (fun _ => rfl) _
@[simp] theorem imms_nums (xs : List Nat) : imms (xs.map nD) = true := imms_map (fun _ => rfl) _
@[simp] theorem nols_nums (xs : List Nat) : nols (xs.map nD) = true := nols_map (fun _ => rfl) _
def LE40 (sc : D) (k : Int) (T : Tp) (ns : List Str) (rs : List Rw) (o6 o7 o8 : Option D) : Env := [some sc, some (.int k), some (tp T), some (.lst .m (ns.map D.str)), some (.lst .m (rs.map rt)), some (.lst .m (rs.map rt)), o6, o7, o8]
theorem v_inner (sc : D) (k : Int) (T : Tp) (ns : List Str) {rs : List Rw} (hl : rs.length ≤ 1000) (z : Int) (o7 o8 : Option D) :
    ∃ o7' o8', l_law_1 (LE40 sc k T ns rs (some (.int z)) o7 o8) = .nx (LE40 sc k T ns rs (some (.int z)) o7' o8') := by
  obtain ⟨x, e1, e2⟩ := v_at hl z
  have e3 := v_standing (Hold.l (f := rt) (js := rs)) hl z
  have e4 := v_standing (Hold.t (f := rt) (js := rs)) hl z
  have hs := stands_le rs z
  have e5 := same_refl (plain_nums (stands rs z) (by omega))
  have hz : (stands rs z).length < sizeLine := sz_lt (by omega)
  have a0 : atI [D.lst .m ((stands rs z).map nD), x] 0 = some (.lst .m ((stands rs z).map nD)) := rfl
  have hb : rs.length ≤ sizeLine := sz_ok (by omega)
  refine ⟨some (.lst .m ((stands rs z).map nD)), some (.lst .m ((stands rs z).map nD ++ [.int (-1)])), ?_⟩
  unfold l_law_1
  refine seq_nx (env1 := LE40 sc k T ns rs (some (.int z)) (some (.lst .m ((stands rs z).map nD))) o8) ?_ (seq_nx (env1 := LE40 sc k T ns rs (some (.int z)) (some (.lst .m ((stands rs z).map nD))) (some (.lst .m ((stands rs z).map nD)))) ?_ (seq_nx (env1 := LE40 sc k T ns rs (some (.int z)) (some (.lst .m ((stands rs z).map nD))) (some (.lst .m ((stands rs z).map nD)))) ?_
    (seq_nx (env1 := LE40 sc k T ns rs (some (.int z)) (some (.lst .m ((stands rs z).map nD))) (some (.lst .m ((stands rs z).map nD ++ [.int (-1)])))) ?_ ?_)))
  · unfold LE40; simp [e1, e2, a0]
  · unfold LE40; simp [e3]
  · unfold LE40; simp [e5]
  · unfold LE40; simp [hz]
  · unfold LE40; simp [e4, e5, hb]
theorem v_round (sc : List Int) (k : Nat) (o2 o3 o4 o5 o6 o7 o8 : Option D) : ∃ p2 p3 p4 p5 p6 p7 p8, l_law_2 [some (.lst .l (sc.map D.int)), some (.int (k : Nat)), o2, o3, o4, o5, o6, o7, o8] = .nx [some (.lst .l (sc.map D.int)), some (.int (k : Nat)), p2, p3, p4, p5, p6, p7, p8] := by
  obtain ⟨T0, t1⟩ := v_tape sc k
  obtain ⟨ns, T1, t2, hn⟩ := v_names T0
  obtain ⟨t, T2, t3, t0, tM⟩ := v_turn T1
  obtain ⟨rs, T3, t4, hr, hl⟩ := v_rows T2 hn.len ⟨t0, tM⟩
  obtain ⟨ts, t5, htl⟩ := v_times (rs := rs) (by omega)
  obtain ⟨env', f1, f2⟩ := for_inv (f := D.int) (g := gSet 6) (body := l_law_1) (P := fun _ env => ∃ o6 o7 o8, env = LE40 (.lst .l (sc.map D.int)) (k : Nat) T3 ns rs o6 o7 o8) (by
    rintro z rest env ⟨o6, o7, o8, rfl⟩
    obtain ⟨o7', o8', e⟩ := v_inner (.lst .l (sc.map D.int)) (k : Nat) T3 ns (rs := rs) (by omega) z o7 o8
    exact ⟨_, _, rfl, e, _, _, _, rfl⟩) ts (LE40 (.lst .l (sc.map D.int)) (k : Nat) T3 ns rs o6 o7 o8) ⟨_, _, _, rfl⟩
  obtain ⟨p6, p7, p8, rfl⟩ := f2
  have hne := ne_self (g := .m) (g' := .m) (ds := rs.map rt) (eqOks_rts 38 rs)
  unfold LE40 at f1
  refine ⟨some (tp T3), some (.lst .m (ns.map D.str)), some (.lst .m (rs.map rt)), some (.lst .m (rs.map rt)), p6, p7, p8, ?_⟩
  have hb : rs.length ≤ sizeLine := sz_ok (by omega)
  unfold l_law_2
  simp [t1, t2, t3, t4, t5, f1, hne, hb]
theorem v_law (ns : List Int) (h : ns.length ≤ 63) : φ_law [.lst .l (ns.map D.int)] = .ok (.bl true) [] := by
  have hl : ns.length ≤ sizeLine := sz_ok (by omega)
  obtain ⟨env', f1, f2⟩ := for_inv (f := fun i : Nat => D.int (i : Nat)) (g := gSet 1) (body := l_law_2) (P := fun _ env => ∃ o1 o2 o3 o4 o5 o6 o7 o8, env = [some (.lst .l (ns.map D.int)), o1, o2, o3, o4, o5, o6, o7, o8]) (by
    rintro k rest env ⟨o1, o2, o3, o4, o5, o6, o7, o8, rfl⟩
    obtain ⟨p2, p3, p4, p5, p6, p7, p8, e⟩ := v_round ns k o2 o3 o4 o5 o6 o7 o8
    exact ⟨_, _, rfl, e, _, _, _, _, _, _, _, _, rfl⟩) (List.range (1 + (if (ns.length : Int) < 8 then (ns.length : Int) else 8)).toNat) [some (.lst .l (ns.map D.int)), none, none, none, none, none, none, none, none] ⟨_, _, _, _, _, _, _, _, rfl⟩
  obtain ⟨o1, o2, o3, o4, o5, o6, o7, o8, rfl⟩ := f2
  have e5 := v_standing (Hold.l (f := rt) (js := [])) (by simp) 5
  have hst : stands [] 5 = [] := rfl
  rw [hst] at e5
  simp only [List.map_nil] at e5
  have hq : pEq (.lst .m []) (.lst .m []) = some (.bl true) := eq_self rfl
  have hr := e_rng (1 + (if (ns.length : Int) < 8 then (ns.length : Int) else 8)) (by split <;> omega) (by split <;> omega)
  have e : b_law [some (.lst .l (ns.map D.int)), none, none, none, none, none, none, none, none] = .rt (.bl true) [some (.lst .l (ns.map D.int)), o1, o2, o3, o4, o5, o6, o7, o8] := by
    unfold b_law
    simp [hr, f1, e5, hq]
  exact fn_rt ⟨rfl, by decide⟩ rfl e rfl
end VS

set_option maxRecDepth 100000
set_option maxHeartbeats 0
namespace VS
open PySem L2 SeqAt PySem.Spec PyProof.Rows
theorem all_mk {l : PySem.W.OpenLaw} {w : World} {K : PySem.W.Frag} {h : Heap} {mg : Str → Option Value} {fa f1 f2 f3 f4 f5 f6 f7 f8 f9 f10 f11  : Addr} (X : K.In h) (G : h.Ns mainGlobals mg) (hfa : mg "law" = some (.ref fa))
    {od1 an1 : Option Addr} {sl1 : Array (Option Value)} {oc1 kV1 dc1 pm1 cd1 ct1 : Value}
    (a1 : PySem.W.nsIn K mainGlobals "_law_tape" = some (some (.ref f1))) (l1 : K.lookup f1 = some ⟨oc1, od1, .func (PySem.W.fnOf "_law_tape" "_law_tape" (defArgs s__law_tape) (defBody s__law_tape) (defScope s__law_tape) .none kV1 dc1 pm1 an1 cd1 ct1), sl1⟩) (k1 : PySem.W.codeIn K cd1 "_law_tape" = true) (p1 : PySem.W.keepIn K (.ref f1) = true)
    {od2 an2 : Option Addr} {sl2 : Array (Option Value)} {oc2 kV2 dc2 pm2 cd2 ct2 : Value}
    (a2 : PySem.W.nsIn K mainGlobals "_law_draw" = some (some (.ref f2))) (l2 : K.lookup f2 = some ⟨oc2, od2, .func (PySem.W.fnOf "_law_draw" "_law_draw" (defArgs s__law_draw) (defBody s__law_draw) (defScope s__law_draw) .none kV2 dc2 pm2 an2 cd2 ct2), sl2⟩) (k2 : PySem.W.codeIn K cd2 "_law_draw" = true) (p2 : PySem.W.keepIn K (.ref f2) = true)
    {od3 an3 : Option Addr} {sl3 : Array (Option Value)} {oc3 kV3 dc3 pm3 cd3 ct3 : Value}
    (a3 : PySem.W.nsIn K mainGlobals "_law_names" = some (some (.ref f3))) (l3 : K.lookup f3 = some ⟨oc3, od3, .func (PySem.W.fnOf "_law_names" "_law_names" (defArgs s__law_names) (defBody s__law_names) (defScope s__law_names) .none kV3 dc3 pm3 an3 cd3 ct3), sl3⟩) (k3 : PySem.W.codeIn K cd3 "_law_names" = true) (p3 : PySem.W.keepIn K (.ref f3) = true)
    {od4 an4 : Option Addr} {sl4 : Array (Option Value)} {oc4 kV4 dc4 pm4 cd4 ct4 : Value}
    (a4 : PySem.W.nsIn K mainGlobals "_law_turn" = some (some (.ref f4))) (l4 : K.lookup f4 = some ⟨oc4, od4, .func (PySem.W.fnOf "_law_turn" "_law_turn" (defArgs s__law_turn) (defBody s__law_turn) (defScope s__law_turn) .none kV4 dc4 pm4 an4 cd4 ct4), sl4⟩) (k4 : PySem.W.codeIn K cd4 "_law_turn" = true) (p4 : PySem.W.keepIn K (.ref f4) = true)
    {od5 an5 : Option Addr} {sl5 : Array (Option Value)} {oc5 kV5 dc5 pm5 cd5 ct5 : Value}
    (a5 : PySem.W.nsIn K mainGlobals "_law_joinings" = some (some (.ref f5))) (l5 : K.lookup f5 = some ⟨oc5, od5, .func (PySem.W.fnOf "_law_joinings" "_law_joinings" (defArgs s__law_joinings) (defBody s__law_joinings) (defScope s__law_joinings) .none kV5 dc5 pm5 an5 cd5 ct5), sl5⟩) (k5 : PySem.W.codeIn K cd5 "_law_joinings" = true) (p5 : PySem.W.keepIn K (.ref f5) = true)
    {od6 an6 : Option Addr} {sl6 : Array (Option Value)} {oc6 kV6 dc6 pm6 cd6 ct6 : Value}
    (a6 : PySem.W.nsIn K mainGlobals "_law_rows" = some (some (.ref f6))) (l6 : K.lookup f6 = some ⟨oc6, od6, .func (PySem.W.fnOf "_law_rows" "_law_rows" (defArgs s__law_rows) (defBody s__law_rows) (defScope s__law_rows) .none kV6 dc6 pm6 an6 cd6 ct6), sl6⟩) (k6 : PySem.W.codeIn K cd6 "_law_rows" = true) (p6 : PySem.W.keepIn K (.ref f6) = true)
    {od7 an7 : Option Addr} {sl7 : Array (Option Value)} {oc7 kV7 dc7 pm7 cd7 ct7 : Value}
    (a7 : PySem.W.nsIn K mainGlobals "_law_times" = some (some (.ref f7))) (l7 : K.lookup f7 = some ⟨oc7, od7, .func (PySem.W.fnOf "_law_times" "_law_times" (defArgs s__law_times) (defBody s__law_times) (defScope s__law_times) .none kV7 dc7 pm7 an7 cd7 ct7), sl7⟩) (k7 : PySem.W.codeIn K cd7 "_law_times" = true) (p7 : PySem.W.keepIn K (.ref f7) = true)
    {od8 an8 : Option Addr} {sl8 : Array (Option Value)} {oc8 kV8 dc8 pm8 cd8 ct8 : Value}
    (a8 : PySem.W.nsIn K mainGlobals "_law_at" = some (some (.ref f8))) (l8 : K.lookup f8 = some ⟨oc8, od8, .func (PySem.W.fnOf "_law_at" "_law_at" (defArgs s__law_at) (defBody s__law_at) (defScope s__law_at) .none kV8 dc8 pm8 an8 cd8 ct8), sl8⟩) (k8 : PySem.W.codeIn K cd8 "_law_at" = true) (p8 : PySem.W.keepIn K (.ref f8) = true)
    {od9 an9 : Option Addr} {sl9 : Array (Option Value)} {oc9 kV9 dc9 pm9 cd9 ct9 : Value}
    (a9 : PySem.W.nsIn K mainGlobals "standing_at" = some (some (.ref f9))) (l9 : K.lookup f9 = some ⟨oc9, od9, .func (PySem.W.fnOf "standing_at" "standing_at" (defArgs s_standing_at) (defBody s_standing_at) (defScope s_standing_at) .none kV9 dc9 pm9 an9 cd9 ct9), sl9⟩) (k9 : PySem.W.codeIn K cd9 "standing_at" = true) (p9 : PySem.W.keepIn K (.ref f9) = true)
    {od10 an10 : Option Addr} {sl10 : Array (Option Value)} {oc10 kV10 dc10 pm10 cd10 ct10 : Value}
    (a10 : PySem.W.nsIn K mainGlobals "_law_same" = some (some (.ref f10))) (l10 : K.lookup f10 = some ⟨oc10, od10, .func (PySem.W.fnOf "_law_same" "_law_same" (defArgs s__law_same) (defBody s__law_same) (defScope s__law_same) .none kV10 dc10 pm10 an10 cd10 ct10), sl10⟩) (k10 : PySem.W.codeIn K cd10 "_law_same" = true) (p10 : PySem.W.keepIn K (.ref f10) = true)
    {od11 an11 : Option Addr} {sl11 : Array (Option Value)} {oc11 kV11 dc11 pm11 cd11 ct11 : Value}
    (a11 : PySem.W.nsIn K mainGlobals "law" = some (some (.ref f11))) (l11 : K.lookup f11 = some ⟨oc11, od11, .func (PySem.W.fnOf "law" "law" (defArgs s_law) (defBody s_law) (defScope s_law) .none kV11 dc11 pm11 an11 cd11 ct11), sl11⟩) (k11 : PySem.W.codeIn K cd11 "law" = true) (p11 : PySem.W.keepIn K (.ref f11) = true)
    (w_len : PySem.W.nsIn K mainGlobals "len" = some none)
    (w_abs : PySem.W.nsIn K mainGlobals "abs" = some none)
    (w_int : PySem.W.nsIn K mainGlobals "int" = some none)
    (w_min : PySem.W.nsIn K mainGlobals "min" = some none)
    (w_range : PySem.W.nsIn K mainGlobals "range" = some none)
    (w_dict : PySem.W.nsIn K mainGlobals "dict" = some none)
    (w_max : PySem.W.nsIn K mainGlobals "max" = some none)
    (w_sorted : PySem.W.nsIn K mainGlobals "sorted" = some none)
    (w_set : PySem.W.nsIn K mainGlobals "set" = some none)
    (w_enumerate : PySem.W.nsIn K mainGlobals "enumerate" = some none)
    (w_list : PySem.W.nsIn K mainGlobals "list" = some none)
    (w_tuple : PySem.W.nsIn K mainGlobals "tuple" = some none)
    (w_isinstance : PySem.W.nsIn K mainGlobals "isinstance" = some none)
    (w_zip : PySem.W.nsIn K mainGlobals "zip" = some none)
    (w_all : PySem.W.nsIn K mainGlobals "all" = some none)
    (w_str : PySem.W.nsIn K mainGlobals "str" = some none)
    (w_bool : PySem.W.nsIn K mainGlobals "bool" = some none)
 :
    ∃ fd : FuncData, (∀ (s : Shared) (v : Value), BindsTo s fd ⟨[v], []⟩ [("_law_script", v)]) ∧ ∀ base : Heap, K.In base → base.Ns mainGlobals mg → FnOk l.prog w K mg base (L2.CX l.prog w) 5 fa fd ["_law_script"] (spLaw K) := by
  have e := hfa.symm.trans (PySem.W.mg_of X G a11)
  cases e
  have F1 := fun_mk (st := s__law_tape) l1 k1 p1
  have b1 := F1.binds (ps := ["_law_script", "_law_k"]) fun _ _ _ _ _ _ us hl => match us, hl with | [_, _], _ => rfl
  have F2 := fun_mk (st := s__law_draw) l2 k2 p2
  have b2 := F2.binds (ps := ["_law_tape_here", "_law_many"]) fun _ _ _ _ _ _ us hl => match us, hl with | [_, _], _ => rfl
  have F3 := fun_mk (st := s__law_names) l3 k3 p3
  have b3 := F3.binds (ps := ["_law_tape_here"]) fun _ _ _ _ _ _ us hl => match us, hl with | [_], _ => rfl
  have F4 := fun_mk (st := s__law_turn) l4 k4 p4
  have b4 := F4.binds (ps := ["_law_tape_here"]) fun _ _ _ _ _ _ us hl => match us, hl with | [_], _ => rfl
  have F5 := fun_mk (st := s__law_joinings) l5 k5 p5
  have b5 := F5.binds (ps := ["_law_tape_here", "_law_names_here", "_law_turn_here"]) fun _ _ _ _ _ _ us hl => match us, hl with | [_, _, _], _ => rfl
  have F6 := fun_mk (st := s__law_rows) l6 k6 p6
  have b6 := F6.binds (ps := ["_law_tape_here", "_law_names_here", "_law_turn_here"]) fun _ _ _ _ _ _ us hl => match us, hl with | [_, _, _], _ => rfl
  have F7 := fun_mk (st := s__law_times) l7 k7 p7
  have b7 := F7.binds (ps := ["_law_rows_here"]) fun _ _ _ _ _ _ us hl => match us, hl with | [_], _ => rfl
  have F8 := fun_mk (st := s__law_at) l8 k8 p8
  have b8 := F8.binds (ps := ["_law_rows_here", "_law_time"]) fun _ _ _ _ _ _ us hl => match us, hl with | [_, _], _ => rfl
  have F9 := fun_mk (st := s_standing_at) l9 k9 p9
  have b9 := F9.binds (ps := ["rows", "time"]) fun _ _ _ _ _ _ us hl => match us, hl with | [_, _], _ => rfl
  have F10 := fun_mk (st := s__law_same) l10 k10 p10
  have b10 := F10.binds (ps := ["_law_found", "_law_due"]) fun _ _ _ _ _ _ us hl => match us, hl with | [_, _], _ => rfl
  have F11 := fun_mk (st := s_law) l11 k11 p11
  have z_len := PySem.W.mg_none_of X G w_len
  have z_abs := PySem.W.mg_none_of X G w_abs
  have z_int := PySem.W.mg_none_of X G w_int
  have z_min := PySem.W.mg_none_of X G w_min
  have z_range := PySem.W.mg_none_of X G w_range
  have z_dict := PySem.W.mg_none_of X G w_dict
  have z_max := PySem.W.mg_none_of X G w_max
  have z_sorted := PySem.W.mg_none_of X G w_sorted
  have z_set := PySem.W.mg_none_of X G w_set
  have z_enumerate := PySem.W.mg_none_of X G w_enumerate
  have z_list := PySem.W.mg_none_of X G w_list
  have z_tuple := PySem.W.mg_none_of X G w_tuple
  have z_isinstance := PySem.W.mg_none_of X G w_isinstance
  have z_zip := PySem.W.mg_none_of X G w_zip
  have z_all := PySem.W.mg_none_of X G w_all
  have z_str := PySem.W.mg_none_of X G w_str
  have z_bool := PySem.W.mg_none_of X G w_bool
  refine ⟨PySem.W.fnOf "law" "law" (defArgs s_law) (defBody s_law) (defScope s_law) .none kV11 dc11 pm11 an11 cd11 ct11, fun s v => .of_eq rfl, fun base _ _ => ?_⟩
  have d__law_tape : Fd l.prog w K mg base 1 "_law_tape" ["_law_script", "_law_k"] [false, false] φ__law_tape := fd_mk F1 (PySem.W.mg_of X G a1) b1 (ok__law_tape F1 z_len z_abs z_int)
  have d__law_draw : Fd l.prog w K mg base 1 "_law_draw" ["_law_tape_here", "_law_many"] [true, false] φ__law_draw := fd_mk F2 (PySem.W.mg_of X G a2) b2 (ok__law_draw F2 )
  have d__law_names : Fd l.prog w K mg base 2 "_law_names" ["_law_tape_here"] [true] φ__law_names := fd_mk F3 (PySem.W.mg_of X G a3) b3 (ok__law_names F3 z_min z_range d__law_draw)
  have d__law_turn : Fd l.prog w K mg base 2 "_law_turn" ["_law_tape_here"] [true] φ__law_turn := fd_mk F4 (PySem.W.mg_of X G a4) b4 (ok__law_turn F4 d__law_draw)
  have d__law_joinings : Fd l.prog w K mg base 2 "_law_joinings" ["_law_tape_here", "_law_names_here", "_law_turn_here"] [true, false, false] φ__law_joinings := fd_mk F5 (PySem.W.mg_of X G a5) b5 (ok__law_joinings F5 z_dict z_len z_range d__law_draw)
  have d__law_rows : Fd l.prog w K mg base 3 "_law_rows" ["_law_tape_here", "_law_names_here", "_law_turn_here"] [true, false, false] φ__law_rows := fd_mk F6 (PySem.W.mg_of X G a6) b6 (ok__law_rows F6 z_len z_max d__law_joinings d__law_draw)
  have d__law_times : Fd l.prog w K mg base 1 "_law_times" ["_law_rows_here"] [false] φ__law_times := fd_mk F7 (PySem.W.mg_of X G a7) b7 (ok__law_times F7 z_sorted z_set)
  have d__law_at : Fd l.prog w K mg base 1 "_law_at" ["_law_rows_here", "_law_time"] [false, false] φ__law_at := fd_mk F8 (PySem.W.mg_of X G a8) b8 (ok__law_at F8 z_len z_range)
  have d_standing_at : Fd l.prog w K mg base 1 "standing_at" ["rows", "time"] [false, false] φ_standing_at := fd_mk F9 (PySem.W.mg_of X G a9) b9 (ok_standing_at F9 z_enumerate)
  have d__law_same : Fd l.prog w K mg base 4 "_law_same" ["_law_found", "_law_due"] [false, false] (φ__law_same 3) := fd_mk F10 (PySem.W.mg_of X G a10) b10 (ok__law_same F10 (PySem.W.mg_of X G a10) b10 z_list z_tuple z_isinstance z_len z_zip z_all z_str z_int z_bool)
  exact law_imp (ok_law F11 z_len z_min z_range z_list z_tuple d__law_tape d__law_names d__law_turn d__law_rows d__law_times d__law_at d_standing_at d__law_same) fun ns h1 h2 => v_law ns h1
end VS
open PySem PySem.W PyProof.Rows
set_option maxRecDepth 100000 in
set_option maxHeartbeats 0 in
theorem PySem.Challenge.cw_joinback_k40_standing_rows_holds : PySem.Challenge.rw_joinback_k40_standing_rows.Holds := by
  w_on; o_law; k_head; (case hw => w_witness2)
  k_fill
  refine VS.walkL (l := PySem.Challenge.rw_joinback_k40_standing_rows) (k := 5) (x := "_law_script") rfl rfl ⟨rfl, by decide, by decide⟩ (fun w h Y => PySem.W.kIn_of Y) ?F
  case F =>
    intro w mg fa h KX G hmg
    refine' VS.all_mk KX G hmg ?a1 ?l1 ?k1 ?p1 ?a2 ?l2 ?k2 ?p2 ?a3 ?l3 ?k3 ?p3 ?a4 ?l4 ?k4 ?p4 ?a5 ?l5 ?k5 ?p5 ?a6 ?l6 ?k6 ?p6 ?a7 ?l7 ?k7 ?p7 ?a8 ?l8 ?k8 ?p8 ?a9 ?l9 ?k9 ?p9 ?a10 ?l10 ?k10 ?p10 ?a11 ?l11 ?k11 ?p11 ?w_len ?w_abs ?w_int ?w_min ?w_range ?w_dict ?w_max ?w_sorted ?w_set ?w_enumerate ?w_list ?w_tuple ?w_isinstance ?w_zip ?w_all ?w_str ?w_bool
    (case a1 => k_is)
    (case l1 => k_is)
    (case k1 => k_is)
    (case p1 => k_is)
    (case a2 => k_is)
    (case l2 => k_is)
    (case k2 => k_is)
    (case p2 => k_is)
    (case a3 => k_is)
    (case l3 => k_is)
    (case k3 => k_is)
    (case p3 => k_is)
    (case a4 => k_is)
    (case l4 => k_is)
    (case k4 => k_is)
    (case p4 => k_is)
    (case a5 => k_is)
    (case l5 => k_is)
    (case k5 => k_is)
    (case p5 => k_is)
    (case a6 => k_is)
    (case l6 => k_is)
    (case k6 => k_is)
    (case p6 => k_is)
    (case a7 => k_is)
    (case l7 => k_is)
    (case k7 => k_is)
    (case p7 => k_is)
    (case a8 => k_is)
    (case l8 => k_is)
    (case k8 => k_is)
    (case p8 => k_is)
    (case a9 => k_is)
    (case l9 => k_is)
    (case k9 => k_is)
    (case p9 => k_is)
    (case a10 => k_is)
    (case l10 => k_is)
    (case k10 => k_is)
    (case p10 => k_is)
    (case a11 => k_is)
    (case l11 => k_is)
    (case k11 => k_is)
    (case p11 => k_is)
    (case w_len => k_is)
    (case w_abs => k_is)
    (case w_int => k_is)
    (case w_min => k_is)
    (case w_range => k_is)
    (case w_dict => k_is)
    (case w_max => k_is)
    (case w_sorted => k_is)
    (case w_set => k_is)
    (case w_enumerate => k_is)
    (case w_list => k_is)
    (case w_tuple => k_is)
    (case w_isinstance => k_is)
    (case w_zip => k_is)
    (case w_all => k_is)
    (case w_str => k_is)
    (case w_bool => k_is)

