import PyProof.Rows.All
import Wide.All
import OpenK.AllK
import Wide.FinOn
import HandS.ForMost
import HandS.Walk
import HandS.Exc
import HandS.Wide
import HandS.IsInst
import HandS.TupAny
import HandS.TupLe
import HandS.ExcOwn
import HandS.WordsExc
import HandS.EndBits
import HandS.SortInts
import HandS.Zip
import HandS.Style
import HandS.MapJoin
import HandS.SetKeys
import HandS.More
import KE.SortData
import KE.DataMinMax
import KE.DataCmp
import KE.KDictList
import HandS.WideBits
import KE.GoesMore
import HandS.Conv
import PyProof.ReprRoads
import HandS.RaiseMore
import HandS.SortKw
import KE.KDictPairs
import HandS.Rev
import KE.KEqDict
import PyProof.StrOps2
import PyProof.FitsStr
import HandS.SetFor
import HandS.Strs
import HandS.TupSets
import KE.KStateDown
import HandS.Head0
import HandS.Head1
import HandS.Head2
import HandS.HeadHook1
import HandS.HeadHook4
import PySem.Challenge.RW_joinback_k13_eldest
set_option Elab.async false
set_option linter.all false
set_option maxRecDepth 100000
set_option maxHeartbeats 0
namespace VS
open PySem L2
inductive Fl where | m | l | f | k
deriving DecidableEq
inductive D where
 | non
 | bl (b:Bool)
 | int (i:Int)
 | str (s:Str)
 | ty (n:String)
 | tup (ds:List D)
 | lst (g:Fl) (ds:List D)
 | dct (g:Fl) (ks:List Key) (ds:List D)
 | obj (g:Fl) (c:Str) (ns:List Str) (ds:List D)
 | exc (c:Str) (ns:List Str) (ds:List D)
abbrev Env:=List (Option D)
abbrev FPs:=List (List Addr)
structure Ctx where
 K:PySem.W.Frag
 mg:Str→Option Value
 H0:Hp
 A:List Addr
 Lk:List Addr
def Mutb:HO→Prop
 | .lst _=>True
 | .dK _=>True
 | .ins _ _ _=>True
 | _=>False
def Hard:HO→Prop
 | .ext _=>True
 | .xd _=>True
 | _=>False
theorem Hard.nm {u:HO} (h:Hard u) (m:Mutb u):False:=by cases u<;>simp_all [Hard,Mutb]
structure Mono (H H':Hp):Prop where
 t:∀a xs,H a=some (.tup xs)→H' a=some (.tup xs)
 z:∀a o u,H a=some (.frz o u)→H' a=some (.frz o u)
 x:∀a o,Hard o→H a=some o→H' a=some o
theorem Mono.refl (H:Hp):Mono H H:=⟨fun _ _ h=>h,fun _ _ _ h=>h,fun _ _ _ h=>h⟩
theorem Mono.trans {H H1 H2:Hp} (a:Mono H H1) (b:Mono H1 H2):Mono H H2:=⟨fun x y h=>b.t x y (a.t x y h),fun x y z h=>b.z x y z (a.z x y z h),fun x o k h=>b.x x o k (a.x x o k h)⟩
theorem Mono.upd {H:Hp} {a:Addr} {u o:HO} (h:H a=some u) (mu:Mutb u):Mono H (upd H a o):=by
 refine⟨?_,?_,fun b w hw e=>?_⟩
 ·intro b xs e
  have:b≠a:=by rintro rfl;rw[h]at e;cases e;exact mu
  rw[upd_ne this];exact e
 ·intro b x y e
  have:b≠a:=by rintro rfl;rw[h]at e;cases e;exact mu
  rw[upd_ne this];exact e
 ·have:b≠a:=by rintro rfl;rw[h]at e;cases e;exact hw.nm mu
  rw[upd_ne this];exact e
theorem Mono.new {H:Hp} {a:Addr} {o:HO} (h:H a=none):Mono H (L2.upd H a o):=by
 refine⟨?_,?_,fun b w _ e=>by rw[upd_ne (ne_of_none e h)];exact e⟩
 ·intro b xs e
  rw[upd_ne (ne_of_none e h)];exact e
 ·intro b x y e
  rw[upd_ne (ne_of_none e h)];exact e
def KL (K:PySem.W.Frag) (a:Addr) (xs:List V):Prop :=
 ∃(o:Obj) (its:Array Value) (n:Nat),K.lookup a=some o∧o.cls=.type "list" ∧ o.dict=none∧o.data=.seq its n∧its.size≤sizeLine∧Vals xs its.toList
def RdK (K:PySem.W.Frag) (H:Hp) (a:Addr) (u:HO):Prop:=Rd H a u∨∃xs,u=.lst xs∧KL K a xs
theorem RdK.sql {K H a xs} (h:RdK K H a (.lst xs)):SqL K H a xs:=by
 rcases h with h | ⟨ys,e,h⟩
 ·exact .inl h
 ·cases e;exact .inr h
theorem RdK.rd {K H a u} (h:RdK K H a u) (n:∀xs,u≠.lst xs):Rd H a u:=by
 rcases h with h | ⟨ys,e,h⟩
 ·exact h
 ·exact absurd e (n ys)
def Nd (C:Ctx) (H:Hp):Fl→Addr→HO→List Addr→Prop
 | .m,a,u,fp=>H a=some u∧fp=[a]
 | .l,a,u,fp=>((Rd C.H0 a u∧a∉C.A)∨∃xs,u=.lst xs∧KL C.K a xs)∧fp=[]
 | .f,a,u,fp=>(∃o,H a=some (.frz o u))∧a∉C.Lk∧fp=[]
 | .k,a,u,fp=>(∃o,H a=some (.frz o u))∧fp=[]
def ExP (a:Addr) (cls:Value) (d:Option Addr):HO:=.ext fun h=>∃(oe:Obj) (vs:Array Value),h.get? a=some oe∧Zc cls d oe∧oe.data=.fields vs
def XdAt (H:Hp):Option Addr→List (Str × V)→Prop
 | none,fs=>fs=[]
 | some da,fs=>H da=some (.xd fs)
theorem XdAt.mono {H H':Hp} (m:Mono H H'):∀{d:Option Addr} {fs:List (Str × V)},XdAt H d fs→XdAt H' d fs
 | none,_,h=>h
 | some _,_,h=>m.x _ _ trivial h
def JbL (C:Ctx) (c:Str) (Ca:Addr):Prop:=C.mg c=some (.ref Ca)
mutual
def Rep (C:Ctx) (H:Hp):D→V→List Addr→Prop
 | .non,v,fp=>v=.non∧fp=[]
 | .bl b,v,fp=>v=.bl b∧fp=[]
 | .int i,v,fp=>v=.int i∧fp=[]
 | .str s,v,fp=>v=.str s∧fp=[]
 | .ty s,v,fp=>v=.ty s∧fp=[]
 | .tup ds,v,fp=>∃a vs,v=.ref a∧SqT C.K H a vs∧Reps C H ds vs fp
 | .lst g ds,v,fp=>∃a vs f1 f2,v=.ref a∧Nd C H g a (.lst vs) f1∧Reps C H ds vs f2∧(g=.m∨f2=[])∧fp=f1++f2
 | .dct g ks ds,v,fp=>∃a kvs f1 f2,v=.ref a∧Nd C H g a (.dK kvs) f1∧(kvs.map (·.1)=ks∧ks.Nodup)∧Reps C H ds (kvs.map (·.2)) f2∧(g=.m∨f2=[])∧fp=f1++f2
 | .obj g c ns ds,v,fp=>∃a Ca dx fs f1 f2,v=.ref a∧JbL C c Ca∧Nd C H g a (.ins Ca dx fs) f1∧fs.map (·.1)=ns∧Reps C H ds (fs.map (·.2)) f2∧(g=.m∨f2=[])∧fp=f1++f2
 | .exc c ns ds,v,fp=>∃a Ca d fs,v=.ref a∧JbL C c Ca∧H a=some (ExP a (.ref Ca) d)∧XdAt H d fs∧fs.map (·.1)=ns∧Reps C H ds (fs.map (·.2)) []∧fp=[]
def Reps (C:Ctx) (H:Hp):List D→List V→List Addr→Prop
 | [],vs,fp=>vs=[]∧fp=[]
 | d::ds,vs,fp=>∃v vs' f1 f2,vs=v::vs'∧Rep C H d v f1∧Reps C H ds vs' f2∧fp=f1++f2
end
mutual
def D.imm:D→Bool
 | .tup ds=>imms ds
 | .lst g ds=>(g == .l || g == .f) && imms ds
 | .dct g _ ds=>(g == .l || g == .f) && imms ds
 | .obj g _ _ ds=>(g == .l || g == .f) && imms ds
 | _=>true
def imms:List D→Bool
 | []=>true
 | d::ds=>d.imm && imms ds
end
mutual
def D.nol:D→Bool
 | .tup ds=>nols ds
 | .lst g ds=>(g == .m || g == .f) && nols ds
 | .dct g _ ds=>(g == .m || g == .f) && nols ds
 | .obj g _ _ ds=>(g == .m || g == .f) && nols ds
 | .exc _ _ ds=>nols ds
 | _=>true
def nols:List D→Bool
 | []=>true
 | d::ds=>d.nol && nols ds
end
def Fl.lend:Fl→Fl:=fun _=>.l
def Fl.fix:Fl→Fl
 | .m=>.f
 | g=>g
mutual
def D.lend:D→D
 | .tup ds=>.tup (lends ds)
 | .lst g ds=>.lst g.lend (lends ds)
 | .dct g ks ds=>.dct g.lend ks (lends ds)
 | .obj g c ns ds=>.obj g.lend c ns (lends ds)
 | d=>d
def lends:List D→List D
 | []=>[]
 | d::ds=>d.lend::lends ds
end
mutual
def D.fix:D→D
 | .tup ds=>.tup (fixs ds)
 | .lst g ds=>.lst g.fix (fixs ds)
 | .dct g ks ds=>.dct g.fix ks (fixs ds)
 | .obj g c ns ds=>.obj g.fix c ns (fixs ds)
 | d=>d
def fixs:List D→List D
 | []=>[]
 | d::ds=>d.fix::fixs ds
end
section
variable {C:Ctx} {H H':Hp}
theorem Nd.keep {g a u fp} (n:Nd C H g a u fp) (hk:∀b∈fp,H' b=H b) (hm:Mono H H'):Nd C H' g a u fp:=by
 cases g with
 | m=>obtain⟨e,rfl⟩:=n;exact⟨by rw[hk a (by simp)];exact e,rfl⟩
 | l=>exact n
 | f=>obtain⟨⟨o,e⟩,x,rfl⟩:=n;exact⟨⟨o,hm.z _ _ _ e⟩,x,rfl⟩
 | k=>obtain⟨⟨o,e⟩,rfl⟩:=n;exact⟨⟨o,hm.z _ _ _ e⟩,rfl⟩
theorem Zq {K a xs} (h:SqT K H a xs) (hm:Mono H H'):SqT K H' a xs:=by
 rcases h with (h | ⟨o,h⟩) | h
 ·exact .inl (.inl (hm.t _ _ h))
 ·exact .inl (.inr ⟨o,hm.z _ _ _ h⟩)
 ·exact .inr h
mutual
theorem Rep.keep:∀{d:D} {v:V} {fp:List Addr},Rep C H d v fp→(∀a∈fp,H' a=H a)→Mono H H'→Rep C H' d v fp
 | .non,v,fp,h,_,_=>h
 | .bl b,v,fp,h,_,_=>h
 | .int i,v,fp,h,_,_=>h
 | .str s,v,fp,h,_,_=>h
 | .ty s,v,fp,h,_,_=>h
 | .tup ds,v,fp,⟨a,vs,e,t,r⟩,hk,hm=>⟨a,vs,e,Zq t hm,Reps.keep r hk hm⟩
 | .lst g ds,v,fp,⟨a,vs,f1,f2,e,n,r,z,e2⟩,hk,hm=>⟨a,vs,f1,f2,e,n.keep (fun b hb=>hk b (by rw[e2];exact List.mem_append_left _ hb)) hm,Reps.keep r (fun b hb=>hk b (by rw[e2];exact List.mem_append_right _ hb)) hm,z,e2⟩
 | .dct g ks ds,v,fp,⟨a,vs,f1,f2,e,n,q,r,z,e2⟩,hk,hm=>⟨a,vs,f1,f2,e,n.keep (fun b hb=>hk b (by rw[e2];exact List.mem_append_left _ hb)) hm,q,Reps.keep r (fun b hb=>hk b (by rw[e2];exact List.mem_append_right _ hb)) hm,z,e2⟩
 | .obj g c ns ds,v,fp,⟨a,Ca,dx,fs,f1,f2,e,c1,n,q,r,z,e2⟩,hk,hm=>⟨a,Ca,dx,fs,f1,f2,e,c1,n.keep (fun b hb=>hk b (by rw[e2];exact List.mem_append_left _ hb)) hm,q,Reps.keep r (fun b hb=>hk b (by rw[e2];exact List.mem_append_right _ hb)) hm,z,e2⟩
 | .exc c ns ds,v,fp,⟨a,Ca,d,fs,e,c1,n,x,q,r,e2⟩,hk,hm=>⟨a,Ca,d,fs,e,c1,hm.x _ _ trivial n,x.mono hm,q,Reps.keep r (fun b hb=>nomatch hb) hm,e2⟩
theorem Reps.keep:∀{ds:List D} {vs:List V} {fp:List Addr},Reps C H ds vs fp→(∀a∈fp,H' a=H a)→Mono H H'→Reps C H' ds vs fp
 | [],vs,fp,h,_,_=>h
 | d::ds,vs,fp,⟨v,vs',f1,f2,e,r,rs,e2⟩,hk,hm=>⟨v,vs',f1,f2,e,Rep.keep r (fun b hb=>hk b (by rw[e2];exact List.mem_append_left _ hb)) hm,Reps.keep rs (fun b hb=>hk b (by rw[e2];exact List.mem_append_right _ hb)) hm,e2⟩
end
theorem Nd.imm {g a u fp} (n:Nd C H g a u fp) (h:(g == .l || g == .f)=true):fp=[]:=by
 cases g with
 | m=>cases h
 | l=>exact n.2
 | f=>exact n.2.2
 | k=>cases h
mutual
theorem Rep.imm:∀{d:D} {v:V} {fp:List Addr},Rep C H d v fp→d.imm=true→fp=[]
 | .non,v,fp,h,_=>h.2
 | .bl b,v,fp,h,_=>h.2
 | .int i,v,fp,h,_=>h.2
 | .str s,v,fp,h,_=>h.2
 | .ty s,v,fp,h,_=>h.2
 | .tup ds,v,fp,⟨a,vs,e,t,r⟩,hi=>Reps.imm r hi
 | .lst g ds,v,fp,⟨a,vs,f1,f2,e,n,r,z,e2⟩,hi=>by
  have h:=Bool.and_eq_true_iff.mp hi
  rw[e2,n.imm h.1,Reps.imm r h.2];rfl
 | .dct g ks ds,v,fp,⟨a,vs,f1,f2,e,n,q,r,z,e2⟩,hi=>by
  have h:=Bool.and_eq_true_iff.mp hi
  rw[e2,n.imm h.1,Reps.imm r h.2];rfl
 | .obj g c ns ds,v,fp,⟨a,Ca,dx,fs,f1,f2,e,c1,n,q,r,z,e2⟩,hi=>by
  have h:=Bool.and_eq_true_iff.mp hi
  rw[e2,n.imm h.1,Reps.imm r h.2];rfl
 | .exc c ns ds,v,fp,⟨a,Ca,d,fs,e,c1,n,x,q,r,e2⟩,hi=>e2
theorem Reps.imm:∀{ds:List D} {vs:List V} {fp:List Addr},Reps C H ds vs fp→imms ds=true→fp=[]
 | [],vs,fp,h,_=>h.2
 | d::ds,vs,fp,⟨v,vs',f1,f2,e,r,rs,e2⟩,hi=>by
  have h:=Bool.and_eq_true_iff.mp hi
  rw[e2,Rep.imm r h.1,Reps.imm rs h.2];rfl
end
end
section
variable {C:Ctx} {H H':Hp}
theorem Nd.trk {g a u fp} (n:Nd C H g a u fp) (mu:Mutb u):∀b∈fp,∃o,H b=some o∧Mutb o:=by
 cases g with
 | m=>obtain⟨e,rfl⟩:=n;intro b hb;simp at hb;subst hb;exact⟨u,e,mu⟩
 | l=>obtain⟨_,rfl⟩:=n;intro b hb;cases hb
 | f=>obtain⟨_,_,rfl⟩:=n;intro b hb;cases hb
 | k=>obtain⟨_,rfl⟩:=n;intro b hb;cases hb
mutual
theorem Rep.trk:∀{d:D} {v:V} {fp:List Addr},Rep C H d v fp→∀b∈fp,∃o,H b=some o∧Mutb o
 | .non,v,fp,h=>by rw[h.2];intro b hb;cases hb
 | .bl b,v,fp,h=>by rw[h.2];intro b hb;cases hb
 | .int i,v,fp,h=>by rw[h.2];intro b hb;cases hb
 | .str s,v,fp,h=>by rw[h.2];intro b hb;cases hb
 | .ty s,v,fp,h=>by rw[h.2];intro b hb;cases hb
 | .tup ds,v,fp,⟨a,vs,e,t,r⟩=>Reps.trk r
 | .lst g ds,v,fp,⟨a,vs,f1,f2,e,n,r,z,e2⟩=>fun b hb=>by
  rw[e2]at hb
  exact(List.mem_append.mp hb).elim (Nd.trk n trivial b) (Reps.trk r b)
 | .dct g ks ds,v,fp,⟨a,vs,f1,f2,e,n,q,r,z,e2⟩=>fun b hb=>by
  rw[e2]at hb
  exact(List.mem_append.mp hb).elim (Nd.trk n trivial b) (Reps.trk r b)
 | .obj g c ns ds,v,fp,⟨a,Ca,dx,fs,f1,f2,e,c1,n,q,r,z,e2⟩=>fun b hb=>by
  rw[e2]at hb
  exact(List.mem_append.mp hb).elim (Nd.trk n trivial b) (Reps.trk r b)
 | .exc c ns ds,v,fp,⟨a,Ca,d,fs,e,c1,n,x,q,r,e2⟩=>fun b hb=>by rw[e2]at hb;cases hb
theorem Reps.trk:∀{ds:List D} {vs:List V} {fp:List Addr},Reps C H ds vs fp→∀b∈fp,∃o,H b=some o∧Mutb o
 | [],vs,fp,h=>by rw[h.2];intro b hb;cases hb
 | d::ds,vs,fp,⟨v,vs',f1,f2,e,r,rs,e2⟩=>fun b hb=>by
  rw[e2]at hb
  exact(List.mem_append.mp hb).elim (Rep.trk r b) (Reps.trk rs b)
end
def Fr (C:Ctx) (H:Hp):Prop:=∀a o,C.H0 a=some o→a∉C.A→H a=some o∨(a∈C.Lk∧Mutb o∧∃ob,H a=some (.frz ob o))
theorem Nd.rd {g a u fp} (n:Nd C H g a u fp) (f:Fr C H):RdK C.K H a u:=by
 cases g with
 | m=>exact .inl (.inl n.1)
 | l =>
  obtain⟨⟨h | ⟨o,h⟩,na⟩ | h,_⟩:=n
  ·rcases f a _ h na with q | ⟨_,_,ob,q⟩
   ·exact .inl (.inl q)
   ·exact .inl (.inr ⟨ob,q⟩)
  ·rcases f a _ h na with q | ⟨_,mu,ob,q⟩
   ·exact .inl (.inr ⟨o,q⟩)
   ·exact mu.elim
  ·exact .inr h
 | f=>exact .inl (.inr n.1)
 | k=>exact .inl (.inr n.1)
structure Good (C:Ctx) (fs:FPs) (env:Env) (σ:St) (H:Hp) (tf:List Addr):Prop where
 le:env.length=σ.length
 lf:fs.length=σ.length
 rep:∀i d,env[i]?=some (some d)→∃v,σ[i]?=some (some v)∧Rep C H d v (fs.getD i [])
 nd:(fs.flatten++tf).Nodup
 own:∀a∈fs.flatten++tf,a∈C.A∨C.H0 a=none
 trk:∀a∈fs.flatten++tf,∃o,H a=some o∧Mutb o
 fr:Fr C H
 lk:∀a∈C.Lk,∃ob u,H a=some (.frz ob u)
structure Step (M:List Nat) (tf:List Addr) (fs:FPs) (env:Env) (H:Hp) (fs':FPs) (env':Env) (H':Hp):Prop where
 t:∀a∈tf,H' a=H a
 f:∀i,i∉M→fs'.getD i []=fs.getD i []
 e:∀i,i∉M→env'[i]?=env[i]?
 h:∀i,i∉M→∀a∈fs.getD i [],H' a=H a
 m:Mono H H'
theorem Step.refl {M tf fs env H}:Step M tf fs env H fs env H:=⟨fun _ _=>rfl,fun _ _=>rfl,fun _ _=>rfl,fun _ _ _ _=>rfl,.refl H⟩
theorem Step.trans {M1 M2 tf fs env H fs1 env1 H1 fs2 env2 H2} (a:Step M1 tf fs env H fs1 env1 H1) (b:Step M2 tf fs1 env1 H1 fs2 env2 H2):Step (M1++M2) tf fs env H fs2 env2 H2:=by
 refine⟨fun x hx=>(b.t x hx).trans (a.t x hx),fun i hi=>?_,fun i hi=>?_,fun i hi x hx=>?_,a.m.trans b.m⟩
 all_goals rw[List.mem_append,not_or]at hi
 ·exact(b.f i hi.2).trans (a.f i hi.1)
 ·exact(b.e i hi.2).trans (a.e i hi.1)
 ·exact(b.h i hi.2 x (by rw[a.f i hi.1];exact hx)).trans (a.h i hi.1 x hx)
theorem Step.weak {M M' tf tf' fs env H fs1 env1 H1} (a:Step M tf fs env H fs1 env1 H1) (h:∀i∈M,i∈M') (ht:∀x∈tf',x∈tf):Step M' tf' fs env H fs1 env1 H1 :=
 ⟨fun x hx=>a.t x (ht x hx),fun i hi=>a.f i fun z=>hi (h i z),fun i hi=>a.e i fun z=>hi (h i z),fun i hi=>a.h i fun z=>hi (h i z),a.m⟩
theorem Qa (fs:FPs) {i:Nat} (hi:i < fs.length) (x:List Addr):(fs.set i x).flatten.Perm (x++(fs.set i []).flatten):=by
 induction fs generalizing i with
 | nil=>cases hi
 | cons f fs ih =>
  cases i with
  | zero=>simp
  | succ i =>
   simp only[List.set_cons_succ,List.flatten_cons]
   refine ((ih (by simpa using hi)).append_left f).trans ?_
   rw[←List.append_assoc,←List.append_assoc]
   exact List.perm_append_comm.append_right _
theorem Yy (fs:FPs) {i:Nat} (hi:i < fs.length):fs.flatten.Perm (fs.getD i []++(fs.set i []).flatten):=by
 have e:fs.set i (fs.getD i [])=fs:=by
  rw[List.getD_eq_getElem?_getD,List.getElem?_eq_getElem hi];simp
 have:=Qa fs hi (fs.getD i [])
 rwa[e]at this
theorem JE (fs:FPs) (i j:Nat) (x:List Addr) (hi:i < fs.length):(fs.set i x).getD j []=if j=i then x else fs.getD j []:=by
 rw[List.getD_eq_getElem?_getD,List.getElem?_set,List.getD_eq_getElem?_getD]
 by_cases e:j=i
 ·subst e;simp[hi]
 ·simp[e,Ne.symm e]
theorem Yo {fs:FPs} {i:Nat} {a:Addr} (h:a∈fs.getD i []):a∈fs.flatten:=by
 rw[List.getD_eq_getElem?_getD]at h
 cases q:fs[i]? with
 | none=>rw[q]at h;simp at h
 | some x=>rw[q]at h;exact List.mem_flatten.mpr ⟨x,List.mem_of_getElem? q,by simpa using h⟩
theorem Good.lt {fs env σ tf i d} (G:Good C fs env σ H tf) (h:env[i]?=some (some d)):i < fs.length:=by
 have:=(List.getElem?_eq_some_iff.mp h).1
 rw[G.lf,←G.le];exact this
theorem Good.apart {fs env σ tf} (G:Good C fs env σ H tf) {i j:Nat} {a:Addr} (hij:i≠j) (hi:a∈fs.getD i []):a∉fs.getD j []:=fun hj=>by
 have lt:∀k:Nat,a∈fs.getD k []→k < fs.length:=fun k hk=>by
  rw[List.getD_eq_getElem?_getD]at hk
  cases q:fs[k]? with
  | none=>rw[q]at hk;simp at hk
  | some x=>exact(List.getElem?_eq_some_iff.mp q).1
 have p:=Yy fs (lt i hi)
 have nd:=(List.nodup_append.mp G.nd).1
 have nd2:=p.nodup_iff.mp nd
 have dj:=(List.nodup_append.mp nd2).2.2 a hi a
 refine dj ?_ rfl
 have:a∈(fs.set i []).getD j []:=by rw[JE fs i j [] (lt i hi),if_neg (Ne.symm hij)];exact hj
 exact Yo this
theorem Good.apartT {fs env σ tf} (G:Good C fs env σ H tf) {i:Nat} {a:Addr} (hi:a∈fs.getD i []):a∉tf:=fun hj =>
 (List.nodup_append.mp G.nd).2.2 a (Yo hi) a hj rfl
end
end VS
namespace VS
open PySem L2
structure Exn where
 cls:Str
 pay:Option (Str × D)
inductive R (α:Type) where
 | ok (a:α) (e:Env)
 | ex (x:Exn) (e:Env)
 | err
def R.bind {α β:Type} (r:R α) (f:α→Env→R β):R β :=
 match r with
 | .ok a e=>f a e
 | .ex x e=>.ex x e
 | .err=>.err
def R.of {α:Type} (o:Option α) (e:Env):R α :=
 match o with
 | some a=>.ok a e
 | none=>.err
abbrev CE:=Env→R D
abbrev CA:=Env→R (List D)
def Ctx.At (C:Ctx) (X:Cx):Prop:=C.K=X.K∧C.mg=X.mg
def ExIs (C:Ctx) (x:Exn) (cv:Value) (dd:Option Addr) (H:Hp):Prop :=
 ∃Ca,C.mg x.cls=some (.ref Ca)∧cv=.ref Ca ∧
  match x.pay with
  | none=>dd=none
  | some (f,d)=>∃da v,dd=some da∧H da=some (.xd [(f,v)])∧d.nol=true∧Rep C H d v []
section
variable (X:Cx) (W:WX) (C:Ctx)
def JY (M:List Nat) (tf:List Addr) (fs:FPs) (env:Env) (σ:St) (H:Hp) (Q:VK):R D→Prop
 | .ok d env'=>∀v fs' H' fp,Good C fs' env' σ H' (fp++tf)→Step M tf fs env H fs' env' H'→Rep C H' d v fp→Q v H'
 | .ex x env'=>∀cv dd fs' H',Good C fs' env' σ H' tf→Step M tf fs env H fs' env' H'→ExIs C x cv dd H'→W cv dd σ H'
 | .err=>False
def In (R:List Nat) (own:List Addr) (fs:FPs) (fp:List Addr):Prop:=∀a∈fp,a∈own∨∃r∈R,a∈fs.getD r []
def JaG (M Rs:List Nat) (tf:List Addr) (fs:FPs) (env:Env) (σ:St) (H:Hp) (Q:VK):R D→Prop
 | .ok d env'=>∀v fs' H' fp own,Good C fs' env' σ H' (own++tf)→Step M tf fs env H fs' env' H'→Rep C H' d v fp→In Rs own fs' fp→Q v H'
 | .ex x env'=>∀cv dd fs' H',Good C fs' env' σ H' tf→Step M tf fs env H fs' env' H'→ExIs C x cv dd H'→W cv dd σ H'
 | .err=>False
def JdA (M Rs:List Nat) (tf:List Addr) (fs:FPs) (env:Env) (σ:St) (H:Hp) (Q:List V→Hp→Prop):R (List D)→Prop
 | .ok ds env'=>∀vs fs' H' fp own,Good C fs' env' σ H' (own++tf)→Step M tf fs env H fs' env' H'→Reps C H' ds vs fp→In Rs own fs' fp→Q vs H'
 | .ex x env'=>∀cv dd fs' H',Good C fs' env' σ H' tf→Step M tf fs env H fs' env' H'→ExIs C x cv dd H'→W cv dd σ H'
 | .err=>False
end
structure SO (X:Cx) (W:WX) (M:List Nat) (e:Expr) (c:CE):Prop where
 go:∃t,PE X e t∧∀C fs env σ H tf Q,C.At X→Good C fs env σ H tf→JY W C M tf fs env σ H Q (c env)→t σ H Q
structure SB (X:Cx) (W:WX) (M Rs:List Nat) (e:Expr) (c:CE):Prop where
 go:∃t,PE X e t∧∀C fs env σ H tf Q,C.At X→Good C fs env σ H tf→JaG W C M Rs tf fs env σ H Q (c env)→t σ H Q
structure SA (X:Cx) (W:WX) (M Rs:List Nat) (es:List Expr) (c:CA):Prop where
 go:∃t,PA X es t∧∀C fs env σ H tf Q,C.At X→Good C fs env σ H tf→JdA W C M Rs tf fs env σ H Q (c env)→t σ H Q
def Le (H H':Hp):Prop:=∀a o,H a=some o→H' a=some o
theorem Le.refl (H:Hp):Le H H:=fun _ _ h=>h
theorem Le.trans {H H1 H2:Hp} (a:Le H H1) (b:Le H1 H2):Le H H2:=fun x o h=>b x o (a x o h)
theorem Le.new {H:Hp} {a:Addr} {o:HO} (h:H a=none):Le H (upd H a o):=fun b u e=>by rw[upd_ne (ne_of_none e h)];exact e
theorem Le.mono {H H':Hp} (h:Le H H'):Mono H H':=⟨fun a xs e=>h a _ e,fun a o u e=>h a _ e,fun a o _ e=>h a _ e⟩
theorem Le.at {H H':Hp} (h:Le H H') {a:Addr} {P:HO→Prop} (t:∃o,H a=some o∧P o):H' a=H a:=by
 obtain⟨o,e,_⟩:=t
 rw[e];exact h a o e
section
variable {C:Ctx} {H H' H1 H2:Hp} {fs fs':FPs} {env env':Env} {σ:St} {tf fp own:List Addr} {M Rs:List Nat}
theorem Rep.le {d v} (r:Rep C H d v fp) (h:Le H H'):Rep C H' d v fp:=r.keep (fun a ha=>h.at (r.trk a ha)) h.mono
theorem Reps.le {ds vs} (r:Reps C H ds vs fp) (h:Le H H'):Reps C H' ds vs fp:=r.keep (fun a ha=>h.at (r.trk a ha)) h.mono
theorem Fr.le (f:Fr C H) (h:Le H H'):Fr C H':=fun a o e na=>by
 rcases f a o e na with q | ⟨q1,q2,ob,q3⟩
 ·exact .inl (h _ _ q)
 ·exact .inr ⟨q1,q2,ob,h _ _ q3⟩
theorem Fr.fresh (f:Fr C H) {a:Addr} (n:H a=none):a∈C.A∨C.H0 a=none:=by
 by_cases ha:a∈C.A
 ·exact .inl ha
 ·cases q:C.H0 a with
  | none=>exact .inr rfl
  | some o =>
   rcases f a o q ha with z | ⟨_,_,ob,z⟩
   ·rw[n]at z;cases z
   ·rw[n]at z;cases z
theorem Good.grow (G:Good C fs env σ H tf) (h:Le H H') (nd:fp.Nodup) (nw:∀a∈fp,H a=none) (tk:∀a∈fp,∃o,H' a=some o∧Mutb o):Good C fs env σ H' (fp++tf) where
 le:=G.le
 lf:=G.lf
 rep:=fun i d e=>let ⟨v,e1,r⟩:=G.rep i d e;⟨v,e1,r.le h⟩
 nd:=by
  have p:(fs.flatten++(fp++tf)).Perm (fp++(fs.flatten++tf)):=by
   rw[←List.append_assoc,←List.append_assoc]
   exact List.perm_append_comm.append_right _
  refine p.nodup_iff.mpr (List.nodup_append.mpr ⟨nd,G.nd,fun a ha b hb e=>?_⟩)
  subst e
  obtain⟨o,q,_⟩:=G.trk a hb
  rw[nw a ha]at q;cases q
 own:=fun a ha=>by
  rcases List.mem_append.mp ha with z | z
  ·exact G.own a (List.mem_append_left _ z)
  ·rcases List.mem_append.mp z with z | z
   ·exact G.fr.fresh (nw a z)
   ·exact G.own a (List.mem_append_right _ z)
 trk:=fun a ha=>by
  rcases List.mem_append.mp ha with z | z
  ·obtain⟨o,q,mu⟩:=G.trk a (List.mem_append_left _ z)
   exact⟨o,h _ _ q,mu⟩
  ·rcases List.mem_append.mp z with z | z
   ·exact tk a z
   ·obtain⟨o,q,mu⟩:=G.trk a (List.mem_append_right _ z)
    exact⟨o,h _ _ q,mu⟩
 fr:=G.fr.le h
 lk:=fun a ha=>let ⟨ob,u,e⟩:=G.lk a ha;⟨ob,u,h _ _ e⟩
theorem Good.le' (G:Good C fs env σ H tf) (h:Le H H'):Good C fs env σ H' tf:=G.grow (fp:=[]) h .nil (fun _ z=>nomatch z) fun _ z=>nomatch z
theorem Good.sub {tf':List Addr} (G:Good C fs env σ H tf) (h:tf'.Sublist tf):Good C fs env σ H tf' where
 le:=G.le
 lf:=G.lf
 rep:=G.rep
 nd:=G.nd.sublist ((List.Sublist.refl _).append h)
 own:=fun a ha=>G.own a (by
  rcases List.mem_append.mp ha with z | z
  ·exact List.mem_append_left _ z
  ·exact List.mem_append_right _ (h.subset z))
 trk:=fun a ha=>G.trk a (by
  rcases List.mem_append.mp ha with z | z
  ·exact List.mem_append_left _ z
  ·exact List.mem_append_right _ (h.subset z))
 fr:=G.fr
 lk:=G.lk
theorem Good.drop (G:Good C fs env σ H (own++tf)):Good C fs env σ H tf:=G.sub (List.sublist_append_right _ _)
theorem Step.grow (G:Good C fs env σ H tf) (h:Le H H'):Step M tf fs env H fs env H' :=
 ⟨fun a ha=>h.at (G.trk a (List.mem_append_right _ ha)),fun _ _=>rfl,fun _ _=>rfl,fun i _ a ha=>h.at (G.trk a (List.mem_append_left _ (Yo ha))),h.mono⟩
theorem In.keep (hi:In Rs own fs fp) (s:Step M (own++tf) fs env H1 fs' env' H2) (hd:∀r∈Rs,r∉M):∀a∈fp,H2 a=H1 a:=fun a ha=>by
 rcases hi a ha with z | ⟨r,hr,z⟩
 ·exact s.t a (List.mem_append_left _ z)
 ·exact s.h r (hd r hr) a z
theorem In.step {own2:List Addr} (hi:In Rs own fs fp) (s:Step M (own++tf) fs env H1 fs' env' H2) (hd:∀r∈Rs,r∉M):In Rs (own2++own) fs' fp:=fun a ha=>by
 rcases hi a ha with z | ⟨r,hr,z⟩
 ·exact .inl (List.mem_append_right _ z)
 ·exact .inr ⟨r,hr,by rw[s.f r (hd r hr)];exact z⟩
theorem In.mono {Rs':List Nat} {own':List Addr} (hi:In Rs own fs fp) (h:∀r∈Rs,r∈Rs') (ho:∀a∈own,a∈own'):In Rs' own' fs fp:=fun a ha=>by
 rcases hi a ha with z | ⟨r,hr,z⟩
 ·exact .inl (ho a z)
 ·exact .inr ⟨r,h r hr,z⟩
end
def djB (Rs M:List Nat):Bool:=Rs.all fun r=>!M.contains r
theorem Yv {Rs M:List Nat} (h:djB Rs M=true):∀r∈Rs,r∉M:=fun r hr hm=>by
 have:=List.all_eq_true.mp h r hr
 simp[hm]at this
section
variable {X:Cx} {W:WX} {M M1 M2 Rs R1 R2:List Nat} {e a b:Expr} {es:List Expr} {ca cb:CE} {cs:CA}
theorem SO.sb (h:SO X W M e ca):SB X W M [] e ca:=by
 obtain⟨t,p,q⟩:=h.go
 refine⟨t,p,fun C fs env σ H tf Q hC G po=>q C fs env σ H tf Q hC G ?_⟩
 cases e1:ca env with
 | ok d env' =>
  rw[e1]at po
  exact fun v fs' H' fp G' s r=>po v fs' H' fp fp G' s r fun x hx=>.inl hx
 | ex x env'=>rw[e1]at po;exact po
 | err=>rw[e1]at po;exact po
def cImm (c:CE):CE:=fun env=>(c env).bind fun d env=>if d.imm then .ok d env else .err
theorem SB.imm (h:SB X W M Rs e ca):SO X W M e (cImm ca):=by
 obtain⟨t,p,q⟩:=h.go
 refine⟨t,p,fun C fs env σ H tf Q hC G po=>q C fs env σ H tf Q hC G ?_⟩
 unfold cImm at po
 cases e1:ca env with
 | ok d env' =>
  rw[e1]at po
  intro v fs' H' fp own G' s r hi
  have po':JY W C M tf fs env σ H Q (if d.imm then .ok d env' else .err):=po
  by_cases hd:d.imm=true
  ·rw[if_pos hd]at po'
   have z:=r.imm hd
   subst z
   exact po' v fs' H' [] (by simpa using G'.drop) s r
  ·rw[if_neg hd]at po';exact po'.elim
 | ex x env'=>rw[e1]at po;exact po
 | err=>rw[e1]at po;exact po
def cNil:CA:=fun env=>.ok [] env
def Jc (c:CE) (cs:CA):CA:=fun env=>(c env).bind fun d env=>(cs env).bind fun ds env=>.ok (d::ds) env
theorem JF:SA X W [] [] [] cNil:=by
 refine⟨tNil,pa_nil,fun C fs env σ H tf Q hC G po=>?_⟩
 exact po [] fs H [] [] (by simpa using G) .refl ⟨rfl,rfl⟩ fun _ z=>nomatch z
theorem Js (ha:SB X W M1 R1 a ca) (hr:SA X W M2 R2 es cs) (hd:djB R1 M2=true:=by decide) (hs:starEach (a::es) X.env=(false,eval a X.env)::starEach es X.env:=by rfl) :
  SA X W (M1++M2) (R1++R2) (a::es) (Jc ca cs):=by
 obtain⟨t,p,q⟩:=ha.go
 obtain⟨t2,p2,q2⟩:=hr.go
 refine⟨tCons t t2,pa_cons p p2 hs,fun C fs env σ H tf Q hC G po=>?_⟩
 refine q C fs env σ H tf _ hC G ?_
 unfold Jc at po
 cases e1:ca env with
 | err=>rw[e1]at po;exact po
 | ex x env' =>
  rw[e1]at po
  exact fun cv dd fs' H' G' s=>po cv dd fs' H' G' (s.weak (fun i hi=>List.mem_append_left _ hi) fun _ z=>z)
 | ok d env1 =>
  rw[e1]at po
  intro v fs1 H1 fp1 own1 G1 s1 r1 i1
  refine q2 C fs1 env1 σ H1 (own1++tf) _ hC G1 ?_
  have po':JdA W C (M1++M2) (R1++R2) tf fs env σ H Q ((cs env1).bind fun ds env=>.ok (d::ds) env):=po
  cases e2:cs env1 with
  | err=>rw[e2]at po';exact po'
  | ex x env' =>
   rw[e2]at po'
   exact fun cv dd fs' H' G' s=>po' cv dd fs' H' G'.drop (s1.trans (s.weak (fun _ z=>z) fun x hx=>List.mem_append_right _ hx))
  | ok ds env2 =>
   rw[e2]at po'
   intro vs fs2 H2 fp2 own2 G2 s2 r2 i2
   have po2:∀vs fs' H' fp own,Good C fs' env2 σ H' (own++tf)→Step (M1++M2) tf fs env H fs' env2 H'→Reps C H' (d::ds) vs fp→In (R1++R2) own fs' fp→Q vs H':=po'
   have k1:=i1.keep s2 (Yv hd)
   refine po2 (v::vs) fs2 H2 (fp1++fp2) (own2++own1) (by rw[List.append_assoc];exact G2) (s1.trans (s2.weak (fun _ z=>z) fun x hx=>List.mem_append_right _ hx)) ⟨v,vs,fp1,fp2,rfl,r1.keep k1 s2.m,r2,rfl⟩ ?_
   intro x hx
   rcases List.mem_append.mp hx with z | z
   ·exact(i1.step (own2:=own2) s2 (Yv hd)).mono (fun r hr=>List.mem_append_left _ hr) (fun _ z=>z) x z
   ·exact i2.mono (fun r hr=>List.mem_append_right _ hr) (fun _ z=>List.mem_append_left _ z) x z
end
end VS
namespace VS
open PySem L2
section
variable {X:Cx} {W:WX} {M M1 M2 M3 Rs R1 R2 R3:List Nat} {e a b c:Expr} {es:List Expr} {ca cb cc:CE} {cs:CA} {pos:Pos}
def cVar (i:Nat):CE:=fun env=>match env[i]? with
 | some (some d)=>.ok d env
 | _=>.err
theorem Ja (i:Nat) {x:Str} (hN:X.N[i]?=some x:=by rfl) (hv:Vis X.env.scope x:=by first | exact Or.inl rfl | exact Or.inr (Or.inl rfl) | exact Or.inr (Or.inr rfl)) (hd:(x == ("__debug__" : Str))=false:=by decide)
  (hcd:(x == ("__classdict__" : Str))=false:=by decide):SB X W [] [i] (.Name x pos) (cVar i):=by
 refine⟨tVar i,pe_var hN hv hd hcd,fun C fs env σ H tf Q hC G po=>?_⟩
 unfold cVar at po
 split at po
 ·rename_i d e1
  obtain⟨v,e2,r⟩:=G.rep i d e1
  exact⟨v,e2,po v fs H _ [] (by simpa using G) .refl r fun a ha=>.inr ⟨i,by simp,ha⟩⟩
 ·exact po.elim
def cMv (i:Nat):CE:=fun env=>match env[i]? with
 | some (some d)=>.ok d (env.set i none)
 | _=>.err
theorem Good.mv {C:Ctx} {fs:FPs} {env:Env} {σ:St} {H:Hp} {tf:List Addr} {i:Nat} {d:D} (G:Good C fs env σ H tf) (h:env[i]?=some (some d)) :
  Good C (fs.set i []) (env.set i none) σ H (fs.getD i []++tf):=by
 have hl:=G.lt h
 have p:((fs.set i []).flatten++(fs.getD i []++tf)).Perm (fs.flatten++tf):=by
  rw[←List.append_assoc]
  refine List.Perm.append_right _ ?_
  exact(List.perm_append_comm).trans (Yy fs hl).symm
 refine⟨by simpa using G.le,by simpa using G.lf,fun j d' e=>?_,p.nodup_iff.mpr G.nd,fun a ha=>G.own a (p.mem_iff.mp ha),fun a ha=>G.trk a (p.mem_iff.mp ha),G.fr,G.lk⟩
 rw[List.getElem?_set]at e
 by_cases hj:i=j
 ·subst hj;simp at e
 ·rw[if_neg hj]at e
  obtain⟨v,e1,r⟩:=G.rep j d' e
  exact⟨v,e1,by rw[JE fs i j [] hl,if_neg (Ne.symm hj)];exact r⟩
def cK (d:D):CE:=fun env=>.ok d env
theorem so_k {v:V} {d:D} {t:TE} (p:PE X e t) (ht:∀σ H Q,Q v H→t σ H Q) (hr:∀C H,Rep C H d v []):SO X W [] e (cK d) :=
 ⟨t,p,fun C fs env σ H tf Q hC G po=>ht σ H Q (po v fs H [] (by simpa using G) .refl (hr C H))⟩
theorem Jg {i j}:SO X W [] (.Constant (.int i) j pos) (cK (.int i)):=so_k pe_int (fun _ _ _ h=>h) fun _ _=>⟨rfl,rfl⟩
theorem UP {b j}:SO X W [] (.Constant (.bool b) j pos) (cK (.bl b)):=so_k pe_bl (fun _ _ _ h=>h) fun _ _=>⟨rfl,rfl⟩
theorem Up {x j}:SO X W [] (.Constant (.str x) j pos) (cK (.str x)):=so_k pe_str (fun _ _ _ h=>h) fun _ _=>⟨rfl,rfl⟩
def cTwo (ca cb:CE):Env→R (D × D):=fun env=>(ca env).bind fun x env=>(cb env).bind fun y env=>.ok (x,y) env
def c2 (p:D→D→Option D) (ca cb:CE):CE:=fun env=>(cTwo ca cb env).bind fun xy env=>R.of (p xy.1 xy.2) env
def Jdu (W:WX) (C:Ctx) (M R1 R2:List Nat) (tf:List Addr) (fs:FPs) (env:Env) (σ:St) (H:Hp) (Q:V→V→Hp→Prop):R (D × D)→Prop
 | .ok d env'=>∀x y fs' H' f1 f2 own,Good C fs' env' σ H' (own++tf)→Step M tf fs env H fs' env' H'→Rep C H' d.1 x f1→Rep C H' d.2 y f2→In R1 own fs' f1→In R2 own fs' f2→Q x y H'
 | .ex x env'=>∀cv dd fs' H',Good C fs' env' σ H' tf→Step M tf fs env H fs' env' H'→ExIs C x cv dd H'→W cv dd σ H'
 | .err=>False
theorem Jbo (ha:SB X W M1 R1 a ca) (hb:SB X W M2 R2 b cb) (hd:djB R1 M2=true):∃ta tb,PE X a ta∧PE X b tb∧∀C fs env σ H tf Q,C.At X→Good C fs env σ H tf →
  Jdu W C (M1++M2) R1 R2 tf fs env σ H Q (cTwo ca cb env)→ta σ H fun x H1=>tb σ H1 fun y H2=>Q x y H2:=by
 obtain⟨t,p,q⟩:=ha.go
 obtain⟨t2,p2,q2⟩:=hb.go
 refine⟨t,t2,p,p2,fun C fs env σ H tf Q hC G po=>?_⟩
 refine q C fs env σ H tf _ hC G ?_
 unfold cTwo at po
 cases e1:ca env with
 | err=>rw[e1]at po;exact po
 | ex x env' =>
  rw[e1]at po
  exact fun cv dd fs' H' G' s=>po cv dd fs' H' G' (s.weak (fun i hi=>List.mem_append_left _ hi) fun _ z=>z)
 | ok d env1 =>
  rw[e1]at po
  intro v fs1 H1 fp1 own1 G1 s1 r1 i1
  refine q2 C fs1 env1 σ H1 (own1++tf) _ hC G1 ?_
  have po':Jdu W C (M1++M2) R1 R2 tf fs env σ H Q ((cb env1).bind fun y env=>.ok (d,y) env):=po
  cases e2:cb env1 with
  | err=>rw[e2]at po';exact po'
  | ex x env' =>
   rw[e2]at po'
   exact fun cv dd fs' H' G' s=>po' cv dd fs' H' G'.drop (s1.trans (s.weak (fun _ z=>z) fun x hx=>List.mem_append_right _ hx))
  | ok d2 env2 =>
   rw[e2]at po'
   intro v2 fs2 H2 fp2 own2 G2 s2 r2 i2
   have po2:∀x y fs' H' f1 f2 own,Good C fs' env2 σ H' (own++tf)→Step (M1++M2) tf fs env H fs' env2 H'→Rep C H' d x f1→Rep C H' d2 y f2→In R1 own fs' f1→In R2 own fs' f2→Q x y H':=po'
   exact po2 v v2 fs2 H2 fp1 fp2 (own2++own1) (by rw[List.append_assoc];exact G2) (s1.trans (s2.weak (fun _ z=>z) fun x hx=>List.mem_append_right _ hx)) (r1.keep (i1.keep s2 (Yv hd)) s2.m) r2
    (i1.step (own2:=own2) s2 (Yv hd)) (i2.mono (fun _ z=>z) fun _ z=>List.mem_append_left _ z)
def UM (C:Ctx) (H:Hp) (d:D) (Q:VK):Prop:=∀v H' fp,Le H H'→Rep C H' d v fp→fp.Nodup→(∀a∈fp,H a=none)→Q v H'
structure Pr2 (X:Cx) (r:L2.R2) (p:D→D→Option D):Prop where
 run:∀C H x y dx dy fx fy d Q,C.At X→Fr C H→Rep C H dx x fx→Rep C H dy y fy→p dx dy=some d→UM C H d Q→r x y H Q
structure Pr1 (X:Cx) (r:V→Hp→VK→Prop) (p:D→Option D):Prop where
 run:∀C H x dx fx d Q,C.At X→Fr C H→Rep C H dx x fx→p dx=some d→UM C H d Q→r x H Q
structure PrL (X:Cx) (r:List V→Hp→VK→Prop) (p:List D→Option D):Prop where
 run:∀C H xs dxs fx d Q,C.At X→Fr C H→Reps C H dxs xs fx→p dxs=some d→UM C H d Q→r xs H Q
theorem Ym {C:Ctx} {fs fs1:FPs} {env env1:Env} {σ:St} {H H1:Hp} {tf own:List Addr} {d:D} {Q:VK} (G1:Good C fs1 env1 σ H1 (own++tf)) (s1:Step M tf fs env H fs1 env1 H1)
  (po:JY W C M tf fs env σ H Q (.ok d env1)):UM C H1 d Q:=fun v H' fp le r nd nw =>
 po v fs1 H' fp (G1.drop.grow le nd nw r.trk) (by
  have:=s1.trans (Step.grow (M:=[]) G1.drop le)
  simpa using this) r
theorem so_op {op:Operator} {r:L2.R2} {p:D→D→Option D} (ho:OpR X (binaryOp op) r) (hp:Pr2 X r p) (ha:SB X W M1 R1 a ca) (hb:SB X W M2 R2 b cb) (hd:djB R1 M2=true:=by decide) :
  SO X W (M1++M2) (.BinOp a op b pos) (c2 p ca cb):=by
 obtain⟨ta,tb,pa,pb,q⟩:=Jbo ha hb hd
 refine⟨tOp r ta tb,pe_op ho pa pb,fun C fs env σ H tf Q hC G po=>q C fs env σ H tf _ hC G ?_⟩
 unfold c2 at po
 cases e1:cTwo ca cb env with
 | err=>rw[e1]at po;exact po
 | ex x env'=>rw[e1]at po;exact po
 | ok d env' =>
  rw[e1]at po
  intro x y fs' H' f1 f2 own G' s r1 r2 i1 i2
  have po':JY W C (M1++M2) tf fs env σ H Q (R.of (p d.1 d.2) env'):=po
  cases e2:p d.1 d.2 with
  | none=>rw[e2]at po';exact po'.elim
  | some z =>
   rw[e2]at po'
   exact hp.run C H' x y d.1 d.2 f1 f2 z Q hC G'.fr r1 r2 e2 (Ym G' s po')
theorem so_cmp {op:CmpOp} {r:L2.R2} {p:D→D→Option D} (ho:OpR X (compareOp op) r) (hp:Pr2 X r p) (ha:SB X W M1 R1 a ca) (hb:SB X W M2 R2 b cb) (hm:behindInMarks op b=false:=by first | exact nomark _ | rfl) (hd:djB R1 M2=true:=by decide) :
  SO X W (M1++M2) (.Compare a [op] [b] pos) (c2 p ca cb):=by
 obtain⟨ta,tb,pa,pb,q⟩:=Jbo ha hb hd
 refine⟨tOp r ta tb,pe_cmpR ho pa pb hm,fun C fs env σ H tf Q hC G po=>q C fs env σ H tf _ hC G ?_⟩
 unfold c2 at po
 cases e1:cTwo ca cb env with
 | err=>rw[e1]at po;exact po
 | ex x env'=>rw[e1]at po;exact po
 | ok d env' =>
  rw[e1]at po
  intro x y fs' H' f1 f2 own G' s r1 r2 i1 i2
  have po':JY W C (M1++M2) tf fs env σ H Q (R.of (p d.1 d.2) env'):=po
  cases e2:p d.1 d.2 with
  | none=>rw[e2]at po';exact po'.elim
  | some z =>
   rw[e2]at po'
   exact hp.run C H' x y d.1 d.2 f1 f2 z Q hC G'.fr r1 r2 e2 (Ym G' s po')
def c1 (p:D→Option D) (ca:CE):CE:=fun env=>(ca env).bind fun x env=>R.of (p x) env
theorem so_un {op:UnaryOp} {r:V→Hp→VK→Prop} {p:D→Option D} (ho:UnR X (unaryOp op) r) (hp:Pr1 X r p) (ha:SB X W M1 R1 a ca):SO X W M1 (.UnaryOp op a pos) (c1 p ca):=by
 obtain⟨ta,pa,q⟩:=ha.go
 refine⟨tUn r ta,pe_un ho pa,fun C fs env σ H tf Q hC G po=>q C fs env σ H tf _ hC G ?_⟩
 unfold c1 at po
 cases e1:ca env with
 | err=>rw[e1]at po;exact po
 | ex x env'=>rw[e1]at po;exact po
 | ok d env' =>
  rw[e1]at po
  intro x fs' H' f1 own G' s r1 i1
  have po':JY W C M1 tf fs env σ H Q (R.of (p d) env'):=po
  cases e2:p d with
  | none=>rw[e2]at po';exact po'.elim
  | some z =>
   rw[e2]at po'
   exact hp.run C H' x d f1 z Q hC G'.fr r1 e2 (Ym G' s po')
abbrev CT:=Env→R Bool
def QO (W:WX) (C:Ctx) (M:List Nat) (tf:List Addr) (fs:FPs) (env:Env) (σ:St) (H:Hp) (Q:Bool→Hp→Prop):R Bool→Prop
 | .ok b env'=>∀fs' H',Good C fs' env' σ H' tf→Step M tf fs env H fs' env' H'→Q b H'
 | .ex x env'=>∀cv dd fs' H',Good C fs' env' σ H' tf→Step M tf fs env H fs' env' H'→ExIs C x cv dd H'→W cv dd σ H'
 | .err=>False
structure ST (X:Cx) (W:WX) (M:List Nat) (e:Expr) (c:CT):Prop where
 go:∃t,PT X e t∧∀C fs env σ H tf Q,C.At X→Good C fs env σ H tf→QO W C M tf fs env σ H Q (c env)→t σ H Q
structure SW (X:Cx) (W:WX) (M:List Nat) (e:Expr) (c:CT):Prop where
 go:∃t,PW X e t∧∀C fs env σ H tf Q,C.At X→Good C fs env σ H tf→QO W C M tf fs env σ H Q (c env)→t σ H Q
theorem SW.st {c:CT} (h:SW X W M e c):ST X W M e c:=by
 obtain⟨t,p,q⟩:=h.go
 exact⟨t,p.pt,q⟩
def D.tt:D→Option Bool
 | .bl b=>some b
 | _=>none
def cTt (ca:CE):CT:=fun env=>(ca env).bind fun d env=>R.of d.tt env
theorem tt_of {C:Ctx} {H:Hp} {d:D} {v:V} {fp:List Addr} {k:Bool} (r:Rep C H d v fp) (h:d.tt=some k):v=.bl k:=by
 cases d<;>simp[D.tt]at h
 subst h
 exact r.1
theorem JdB {t:TE} (ht:PT X e (tB t)) (hs:∀C fs env σ H tf Q,C.At X→Good C fs env σ H tf→JaG W C M Rs tf fs env σ H Q (ca env)→t σ H Q):ST X W M e (cTt ca):=by
 refine⟨tB t,ht,fun C fs env σ H tf Q hC G po=>hs C fs env σ H tf _ hC G ?_⟩
 unfold cTt at po
 cases e1:ca env with
 | err=>rw[e1]at po;exact po
 | ex x env'=>rw[e1]at po;exact po
 | ok d env' =>
  rw[e1]at po
  intro x fs' H' f1 own G' s r1 i1
  have po':QO W C M tf fs env σ H Q (R.of d.tt env'):=po
  cases e2:d.tt with
  | none=>rw[e2]at po';exact po'.elim
  | some k =>
   rw[e2]at po'
   exact⟨k,tt_of r1 e2,po' fs' H' G'.drop s⟩
theorem JcO (h:SB X W M Rs e ca) (he:∀whole,isTrue e X.env whole=(do let v ←whole;standAt e.pos;holding [v] (truthy v)):=by intro _;rfl):ST X W M e (cTt ca):=by
 obtain⟨t,p,q⟩:=h.go
 exact JdB (pt_val p he) q
theorem post_ob {C:Ctx} {fs:FPs} {env:Env} {σ:St} {H:Hp} {tf:List Addr} {Q:VK} {z:R D} (po:JaG W C M [] tf fs env σ H Q z):JY W C M tf fs env σ H Q z:=by
 cases z with
 | err=>exact po
 | ex x env'=>exact po
 | ok d env'=>exact fun v fs' H' fp G' s r=>po v fs' H' fp fp G' s r fun x hx=>.inl hx
theorem st_cmp {op:CmpOp} {r:L2.R2} {p:D→D→Option D} (ho:OpR X (compareOp op) r) (hp:Pr2 X r p) (ha:SB X W M1 R1 a ca) (hb:SB X W M2 R2 b cb) (hm:behindInMarks op b=false:=by first | exact nomark _ | rfl) (hd:djB R1 M2=true:=by decide) :
  ST X W (M1++M2) (.Compare a [op] [b] pos) (cTt (c2 p ca cb)):=by
 obtain⟨ta,tb,pa,pb,q⟩:=Jbo ha hb hd
 refine JdB (Rs:=[]) (t:=tOp r ta tb) (pt_cmpR ho pa pb hm) fun C fs env σ H tf Q hC G po=>q C fs env σ H tf _ hC G ?_
 have po:=post_ob po
 unfold c2 at po
 cases e1:cTwo ca cb env with
 | err=>rw[e1]at po;exact po
 | ex x env'=>rw[e1]at po;exact po
 | ok d env' =>
  rw[e1]at po
  intro x y fs' H' f1 f2 own G' s r1 r2 i1 i2
  have po':JY W C (M1++M2) tf fs env σ H Q (R.of (p d.1 d.2) env'):=po
  cases e2:p d.1 d.2 with
  | none=>rw[e2]at po';exact po'.elim
  | some z =>
   rw[e2]at po'
   exact hp.run C H' x y d.1 d.2 f1 f2 z Q hC G'.fr r1 r2 e2 (Ym G' s po')
def Jco (ca cb:CT):CT:=fun env=>(ca env).bind fun b env=>if b=true then cb env else .ok false env
def tcOr (ca cb:CT):CT:=fun env=>(ca env).bind fun b env=>if b=true then .ok true env else cb env
def Jcx (ca:CT):CT:=fun env=>(ca env).bind fun b env=>.ok (!b) env
variable {ta tb:CT}
theorem sw_and1 (h:ST X W M a ta):SW X W M (.BoolOp .And [a] pos) ta:=by
 obtain⟨t,p,q⟩:=h.go
 exact⟨t,pw_and1 p,q⟩
theorem JcK (h:ST X W M a ta):SW X W M (.BoolOp .Or [a] pos) ta:=by
 obtain⟨t,p,q⟩:=h.go
 exact⟨t,pw_or1 p,q⟩
theorem seqT {C:Ctx} {fs:FPs} {env:Env} {σ:St} {H:Hp} {tf:List Addr} {Q:Bool→Hp→Prop} {f:Bool→CT} {t u:TT} (hC:C.At X) (G:Good C fs env σ H tf)
  (ht:∀C fs env σ H tf Q,C.At X→Good C fs env σ H tf→QO W C M1 tf fs env σ H Q (ta env)→t σ H Q)
  (po:QO W C (M1++M2) tf fs env σ H Q ((ta env).bind fun b env=>f b env)) {K:Bool→Hp→Prop}
  (hK:∀b fs1 env1 H1,Good C fs1 env1 σ H1 tf→Step M1 tf fs env H fs1 env1 H1→QO W C M2 tf fs1 env1 σ H1 Q (f b env1)→K b H1):t σ H K:=by
 refine ht C fs env σ H tf _ hC G ?_
 cases e1:ta env with
 | err=>rw[e1]at po;exact po
 | ex x env' =>
  rw[e1]at po
  exact fun cv dd fs' H' G' s=>po cv dd fs' H' G' (s.weak (fun i hi=>List.mem_append_left _ hi) fun _ z=>z)
 | ok d env1 =>
  rw[e1]at po
  intro fs1 H1 G1 s1
  refine hK d fs1 env1 H1 G1 s1 ?_
  have po':QO W C (M1++M2) tf fs env σ H Q (f d env1):=po
  cases e2:f d env1 with
  | err=>rw[e2]at po';exact po'
  | ex x env' =>
   rw[e2]at po'
   exact fun cv dd fs' H' G' s=>po' cv dd fs' H' G' (s1.trans s)
  | ok d2 env2 =>
   rw[e2]at po'
   exact fun fs2 H2 G2 s2=>po' fs2 H2 G2 (s1.trans s2)
theorem sw_and (ha:ST X W M1 a ta) (hb:SW X W M2 (.BoolOp .And (b::es) pos) tb):SW X W (M1++M2) (.BoolOp .And (a::b::es) pos) (Jco ta tb):=by
 obtain⟨t,p,q⟩:=ha.go
 obtain⟨t2,p2,q2⟩:=hb.go
 refine⟨tAnd t t2,pw_and p p2,fun C fs env σ H tf Q hC G po=>?_⟩
 refine seqT (M1:=M1) (M2:=M2) (ta:=ta) (f:=fun b env=>if b=true then tb env else .ok false env) (u:=t2) hC G q po fun b fs1 env1 H1 G1 s1 po1=>?_
 cases b with
 | true=>exact q2 C fs1 env1 σ H1 tf Q hC G1 po1
 | false=>exact po1 fs1 H1 G1 .refl
theorem JdE (ha:ST X W M1 a ta) (hb:SW X W M2 (.BoolOp .Or (b::es) pos) tb):SW X W (M1++M2) (.BoolOp .Or (a::b::es) pos) (tcOr ta tb):=by
 obtain⟨t,p,q⟩:=ha.go
 obtain⟨t2,p2,q2⟩:=hb.go
 refine⟨tOr t t2,pw_or p p2,fun C fs env σ H tf Q hC G po=>?_⟩
 refine seqT (M1:=M1) (M2:=M2) (ta:=ta) (f:=fun b env=>if b=true then .ok true env else tb env) (u:=t2) hC G q po fun b fs1 env1 H1 G1 s1 po1=>?_
 cases b with
 | false=>exact q2 C fs1 env1 σ H1 tf Q hC G1 po1
 | true=>exact po1 fs1 H1 G1 .refl
theorem st_not (ha:ST X W M a ta):ST X W M (.UnaryOp .Not a pos) (Jcx ta):=by
 obtain⟨t,p,q⟩:=ha.go
 refine⟨tNot t,pt_not p,fun C fs env σ H tf Q hC G po=>q C fs env σ H tf _ hC G ?_⟩
 unfold Jcx at po
 cases e1:ta env with
 | err=>rw[e1]at po;exact po
 | ex x env'=>rw[e1]at po;exact po
 | ok d env'=>rw[e1]at po;exact po
end
end VS
namespace VS
open PySem L2 SeqAt
def rD2 (X:Cx) (p:D→D→Option D):L2.R2:=fun x y H Q=>∃C dx dy fx fy d,Ctx.At C X∧Fr C H∧Rep C H dx x fx∧Rep C H dy y fy∧p dx dy=some d∧UM C H d Q
def rD1 (X:Cx) (p:D→Option D):V→Hp→VK→Prop:=fun x H Q=>∃C dx fx d,Ctx.At C X∧Fr C H∧Rep C H dx x fx∧p dx=some d∧UM C H d Q
def rDL (X:Cx) (p:List D→Option D):List V→Hp→VK→Prop:=fun xs H Q=>∃C dxs fx d,Ctx.At C X∧Fr C H∧Reps C H dxs xs fx∧p dxs=some d∧UM C H d Q
theorem Jcc {X:Cx} {p}:Pr2 X (rD2 X p) p:=⟨fun C H x y dx dy fx fy d Q hC hF rx ry e k=>⟨C,dx,dy,fx,fy,d,hC,hF,rx,ry,e,k⟩⟩
theorem pr1_rd {X:Cx} {p}:Pr1 X (rD1 X p) p:=⟨fun C H x dx fx d Q hC hF rx e k=>⟨C,dx,fx,d,hC,hF,rx,e,k⟩⟩
abbrev OD2 (X:Cx) (f:Value→Value→Sem Value) (p:D→D→Option D):Prop:=OpR X f (rD2 X p)
abbrev OD1 (X:Cx) (f:Value→Sem Value) (p:D→Option D):Prop:=UnR X f (rD1 X p)
abbrev ODL (X:Cx) (f:Value) (p:List D→Option D):Prop:=CallR X f (rDL X p)
theorem OD2.of {X:Cx} {f r p} (h:OpR X f r) (hp:∀x y H Q,rD2 X p x y H Q→r x y H Q):OD2 X f p:=fun pins s σ H x y v u Q I rx ry q=>h pins s σ H x y v u Q I rx ry (hp _ _ _ _ q)
theorem OD1.of {X:Cx} {f r p} (h:UnR X f r) (hp:∀x H Q,rD1 X p x H Q→r x H Q):OD1 X f p:=fun pins s σ H x v Q I rx q=>h pins s σ H x v Q I rx (hp _ _ _ q)
theorem ODL.of {X:Cx} {f r p} (h:CallR X f r) (hp:∀xs H Q,rDL X p xs H Q→r xs H Q):ODL X f p:=fun pins s σ H xs us Q I rx q=>h pins s σ H xs us Q I rx (hp _ _ _ q)
def orP2 (p q:D→D→Option D):D→D→Option D:=fun x y=>(p x y).or (q x y)
theorem OD2.or {X:Cx} {f p q} (h:OD2 X f p) (h':OD2 X f q):OD2 X f (orP2 p q):=by
 intro pins s σ H x y v u Q I rx ry ⟨C,dx,dy,fx,fy,d,hC,hF,r1,r2,e,k⟩
 unfold orP2 at e
 cases e1:p dx dy with
 | some z =>
  rw[e1]at e
  have e2:z=d:=Option.some.inj e
  subst e2
  exact h pins s σ H x y v u Q I rx ry ⟨C,dx,dy,fx,fy,z,hC,hF,r1,r2,e1,k⟩
 | none=>rw[e1]at e;exact h' pins s σ H x y v u Q I rx ry ⟨C,dx,dy,fx,fy,d,hC,hF,r1,r2,e,k⟩
theorem UM.here {C:Ctx} {H:Hp} {d:D} {Q:VK} (k:UM C H d Q) {v:V} (r:Rep C H d v []):Q v H:=k v H [] (Le.refl H) r .nil (fun _ z=>nomatch z)
section
variable {X:Cx} {W:WX} {M M1 M2 M3 Rs R1 R2 R3:List Nat} {e a b c:Expr} {es:List Expr} {ca cb cc:CE} {cs:CA} {pos:Pos}
theorem Jq {op:Operator} {p:D→D→Option D} (ho:OD2 X (binaryOp op) p) (ha:SB X W M1 R1 a ca) (hb:SB X W M2 R2 b cb) (hd:djB R1 M2=true:=by decide):SO X W (M1++M2) (.BinOp a op b pos) (c2 p ca cb):=so_op ho Jcc ha hb hd
theorem QY {op:CmpOp} {p:D→D→Option D} (ho:OD2 X (compareOp op) p) (ha:SB X W M1 R1 a ca) (hb:SB X W M2 R2 b cb) (hm:behindInMarks op b=false:=by first | exact nomark _ | rfl) (hd:djB R1 M2=true:=by decide) :
  SO X W (M1++M2) (.Compare a [op] [b] pos) (c2 p ca cb):=so_cmp ho Jcc ha hb hm hd
theorem JG {op:CmpOp} {p:D→D→Option D} (ho:OD2 X (compareOp op) p) (ha:SB X W M1 R1 a ca) (hb:SB X W M2 R2 b cb) (hm:behindInMarks op b=false:=by first | exact nomark _ | rfl) (hd:djB R1 M2=true:=by decide) :
  ST X W (M1++M2) (.Compare a [op] [b] pos) (cTt (c2 p ca cb)):=st_cmp ho Jcc ha hb hm hd
def pI (c:Int→Int→Bool) (g:Int→Int→Int):D→D→Option D
 | .int i,.int j=>if c i j then some (.int (g i j)) else none
 | _,_=>none
def pIB (g:Int→Int→Bool):D→D→Option D
 | .int i,.int j=>some (.bl (g i j))
 | _,_=>none
theorem JcR {c g dx dy d} (h:pI c g dx dy=some d):∃i j,dx=.int i∧dy=.int j∧c i j=true∧d=.int (g i j):=by
 unfold pI at h
 split at h
 ·rename_i i j
  split at h
  ·rename_i hc;cases h;exact⟨i,j,rfl,rfl,hc,rfl⟩
  ·cases h
 ·cases h
theorem pIB_inv {g dx dy d} (h:pIB g dx dy=some d):∃i j,dx=.int i∧dy=.int j∧d=.bl (g i j):=by
 unfold pIB at h
 split at h
 ·rename_i i j;cases h;exact⟨i,j,rfl,rfl,rfl⟩
 ·cases h
theorem Jbe {f:Value→Value→Sem Value} {Cc:Int→Int→Prop} {c:Int→Int→Bool} {g:Int→Int→Int} (h:OpR X f (rI Cc fun i j=>.int (g i j))) (hc:∀i j,c i j=true→Cc i j):OD2 X f (pI c g):=by
 refine OD2.of h fun x y H Q ⟨C,dx,dy,fx,fy,d,hC,hF,r1,r2,e,k⟩=>?_
 obtain⟨i,j,rfl,rfl,h1,rfl⟩:=JcR e
 obtain⟨rfl,_⟩:=r1
 obtain⟨rfl,_⟩:=r2
 exact⟨i,j,rfl,rfl,hc i j h1,k.here ⟨rfl,rfl⟩⟩
theorem Jcv {f:Value→Value→Sem Value} {g:Int→Int→Int} (h:OpR X f (rI0 fun i j=>.int (g i j))):OD2 X f (pI (fun _ _=>true) g):=by
 refine OD2.of h fun x y H Q ⟨C,dx,dy,fx,fy,d,hC,hF,r1,r2,e,k⟩=>?_
 obtain⟨i,j,rfl,rfl,h1,rfl⟩:=JcR e
 obtain⟨rfl,_⟩:=r1
 obtain⟨rfl,_⟩:=r2
 exact⟨i,j,rfl,rfl,k.here ⟨rfl,rfl⟩⟩
theorem Jcd {f:Value→Value→Sem Value} {g:Int→Int→Bool} (h:OpR X f (rI0 fun i j=>.bl (g i j))):OD2 X f (pIB g):=by
 refine OD2.of h fun x y H Q ⟨C,dx,dy,fx,fy,d,hC,hF,r1,r2,e,k⟩=>?_
 obtain⟨i,j,rfl,rfl,rfl⟩:=pIB_inv e
 obtain⟨rfl,_⟩:=r1
 obtain⟨rfl,_⟩:=r2
 exact⟨i,j,rfl,rfl,k.here ⟨rfl,rfl⟩⟩
abbrev JcY:=pI (fun _ _=>true) (fun i j=>i+j)
abbrev pSub:=pI (fun _ _=>true) (fun i j=>i - j)
abbrev Ug:=pI (fun i j=>decide (-(2 ^ 64) < i∧i < 2 ^ 64) || decide (-(2 ^ 64) < j∧j < 2 ^ 64)) (fun i j=>i * j)
abbrev pDiv:=pI (fun _ j=>decide (0 < j∧j < 2 ^ 64)) (fun i j=>i / j)
abbrev pMod:=pI (fun _ j=>decide (0 < j)) (fun i j=>i % j)
abbrev pPow:=pI (fun i j=>decide (0≤j∧j≤1000000∧i.natAbs < 2 ^ 64)) (fun i j=>i ^ j.toNat)
theorem od_addI:OD2 X (binaryOp .Add) JcY:=Jcv op_add
theorem Jan:OD2 X (binaryOp .Sub) pSub:=Jcv op_sub
theorem Ub:OD2 X (binaryOp .Mult) Ug:=Jbe op_mul fun i j h=>by
 rcases Bool.or_eq_true_iff.mp h with z | z
 ·exact .inl (of_decide_eq_true z)
 ·exact .inr (of_decide_eq_true z)
theorem Jc9:OD2 X (binaryOp .FloorDiv) pDiv:=Jbe op_fdivW fun i j h=>by
 obtain⟨h1,h2⟩:=of_decide_eq_true h
 refine wide_div (b:=64) h1 ?_ (by decide) (by decide)
 omega
theorem UV:OD2 X (binaryOp .Mod) pMod:=Jbe op_mod fun i j h=>of_decide_eq_true h
theorem od_pow:OD2 X (binaryOp .Pow) pPow:=Jbe op_pow fun i j h=>by
 have z:=of_decide_eq_true h
 exact z
abbrev pLtI:=pIB fun i j=>decide (i < j)
abbrev pGtI:=pIB fun i j=>decide (j < i)
abbrev pGeI:=pIB fun i j=>decide (j≤i)
theorem od_ltI:OD2 X (compareOp .Lt) pLtI:=Jcd op_lt
theorem od_gtI:OD2 X (compareOp .Gt) pGtI:=Jcd op_gt
theorem od_geI:OD2 X (compareOp .GtE) pGeI:=Jcd op_ge
def pNeg:D→Option D
 | .int i=>some (.int (-i))
 | _=>none
theorem od_neg:OD1 X (unaryOp .USub) pNeg:=by
 refine OD1.of un_neg fun x H Q ⟨C,dx,fx,d,hC,hF,r1,e,k⟩=>?_
 cases dx<;>simp[pNeg]at e
 subst e
 obtain⟨rfl,_⟩:=r1
 exact⟨_,rfl,k.here ⟨rfl,rfl⟩⟩
theorem Qu (ha:SB X W M R1 a ca):SO X W M (.UnaryOp .USub a pos) (c1 pNeg ca):=so_un od_neg pr1_rd ha
mutual
def pyEq:D→D→Bool
 | .non,.non=>true
 | .bl a,.bl b=>a == b
 | .bl a,.int j=>(if a then 1 else 0) == j
 | .int i,.bl b=>i == (if b then 1 else 0)
 | .int i,.int j=>i == j
 | .str x,.str y=>x == y
 | .lst _ xs,.lst _ ys=>pyEqs xs ys
 | .tup xs,.tup ys=>pyEqs xs ys
 | _,_=>false
def pyEqs:List D→List D→Bool
 | [],[]=>true
 | x::xs,y::ys=>pyEq x y && pyEqs xs ys
 | _,_=>false
end
mutual
def eqOk:Nat→D→Bool
 | _,.non=>true
 | _,.bl _=>true
 | _,.int _=>true
 | _,.str _=>true
 | n+1,.lst _ ds=>eqOks n ds
 | n+1,.tup ds=>eqOks n ds
 | _,_=>false
def eqOks:Nat→List D→Bool
 | _,[]=>true
 | n,d::ds=>eqOk n d && eqOks n ds
end
theorem Je {C:Ctx} {H:Hp}:∀{ds:List D} {vs:List V} {fp:List Addr},Reps C H ds vs fp→ds.length=vs.length
 | [],vs,fp,⟨h,_⟩=>by rw[h];rfl
 | d::ds,vs,fp,⟨v,vs',f1,f2,e,r,rs,_⟩=>by rw[e];simp[Je rs]
theorem Zj {C:Ctx} {H:Hp}:∀{ds:List D} {vs:List V} {fp:List Addr} {i:Nat} {d:D},Reps C H ds vs fp→ds[i]?=some d→∃v g1 f g2,vs[i]?=some v∧Rep C H d v f∧fp=g1++f++g2
 | [],vs,fp,i,d,_,h=>by simp at h
 | d0::ds,vs,fp,0,d,⟨v,vs',f1,f2,e,r,rs,e2⟩,h=>by
  simp at h;subst h;subst e;exact⟨v,[],f1,f2,by simp,r,by simpa using e2⟩
 | d0::ds,vs,fp,i+1,d,⟨v,vs',f1,f2,e,r,rs,e2⟩,h=>by
  subst e
  obtain⟨w,g1,f,g2,h1,h2,h3⟩:=Zj (i:=i) rs (by simpa using h)
  exact⟨w,f1++g1,f,g2,by simpa using h1,h2,by rw[e2,h3];simp[List.append_assoc]⟩
theorem UG:∀{xs ys:List D},xs.length≠ys.length→pyEqs xs ys=false
 | [],[],h=>absurd rfl h
 | [],_::_,_=>by simp[pyEqs]
 | _::_,[],_=>by simp[pyEqs]
 | x::xs,y::ys,h=>by rw[pyEqs,UG (xs:=xs) (ys:=ys) (by simpa using h),Bool.and_false]
def UQ (xs ys:List D) (j:Nat):Bool:=match xs[j]?,ys[j]? with
 | some x,some y=>pyEq x y
 | _,_=>false
theorem UJ:∀{xs ys:List D},xs.length=ys.length→((List.range xs.length).all fun j=>UQ xs ys j)=pyEqs xs ys
 | [],[],_=>by simp[pyEqs]
 | x::xs,y::ys,h=>by
  rw[List.length_cons,List.range_succ_eq_map,List.all_cons,List.all_map,pyEqs]
  have e0:UQ (x::xs) (y::ys) 0=pyEq x y:=rfl
  have e1:((fun j=>UQ (x::xs) (y::ys) j)∘Nat.succ)=fun j=>UQ xs ys j:=by funext j;simp[UQ]
  rw[e0,e1,UJ (xs:=xs) (ys:=ys) (by simpa using h)]
variable {pins:List (Addr × Obj)} {σ:St} {H:Hp} {s:Shared} {C:Ctx}
theorem Jj {g ds v fp} (hC:C.At X) (hF:Fr C H) (r:Rep C H (.lst g ds) v fp):∃a vs f,v=.ref a∧SqL X.K H a vs∧Reps C H ds vs f:=by
 obtain⟨a,vs,f1,f2,e,n,r,_,_⟩:=r
 exact⟨a,vs,f2,e,by have:=(Nd.rd n hF).sql;rwa[hC.1]at this,r⟩
theorem Ju {ds v fp} (hC:C.At X) (r:Rep C H (.tup ds) v fp):∃a vs,v=.ref a∧SqT X.K H a vs∧Reps C H ds vs fp:=by
 obtain⟨a,vs,e,n,r⟩:=r
 exact⟨a,vs,e,by rwa[hC.1]at n,r⟩
theorem ltu (I:Inv X pins σ H s) {a:Addr} {xs ys:List V} (h:SqL X.K H a xs) (h':SqT X.K H a ys):False:=by
 obtain⟨its,_,p,_⟩:=I.list h
 obtain⟨its',_,p',_⟩:=I.tuple h'
 obtain⟨o,n,e,c,_,_⟩:=p
 obtain⟨o',e',c',_⟩:=p'
 rw[e]at e';cases e'
 rw[c]at c'
 exact absurd c' (by decide)
mutual
theorem Jbg (I:Inv X pins σ H s) (hC:C.At X) (hF:Fr C H):∀(d e:D) (n:Nat) (v:V) (f1 f2:List Addr),eqOk n d=true→eqOk n e=true→Rep C H d v f1→Rep C H e v f2→pyEq d e=true
 | .non,e,n,v,f1,f2,o1,o2,r1,r2=>by
  obtain⟨rfl,_⟩:=r1
  cases e<;>simp[Rep]at r2<;>first | rfl | exact absurd r2.1 (by simp)
 | .bl b,e,n,v,f1,f2,o1,o2,r1,r2=>by
  obtain⟨rfl,_⟩:=r1
  cases e<;>simp[Rep]at r2
  simp[pyEq,r2.1]
 | .int i,e,n,v,f1,f2,o1,o2,r1,r2=>by
  obtain⟨rfl,_⟩:=r1
  cases e<;>simp[Rep]at r2
  simp[pyEq,r2.1]
 | .str i,e,n,v,f1,f2,o1,o2,r1,r2=>by
  obtain⟨rfl,_⟩:=r1
  cases e<;>simp[Rep]at r2
  simp[pyEq,r2.1]
 | .ty i,e,n,v,f1,f2,o1,o2,r1,r2=>by simp[eqOk]at o1
 | .dct _ _ _,e,n,v,f1,f2,o1,o2,r1,r2=>by simp[eqOk]at o1
 | .obj _ _ _ _,e,n,v,f1,f2,o1,o2,r1,r2=>by simp[eqOk]at o1
 | .exc _ _ _,e,n,v,f1,f2,o1,o2,r1,r2=>by simp[eqOk]at o1
 | .lst g ds,e,n,v,f1,f2,o1,o2,r1,r2=>by
  obtain⟨a,vs,f,rfl,q,rs⟩:=Jj hC hF r1
  cases n with
  | zero=>simp[eqOk]at o1
  | succ n =>
   cases e with
   | lst g2 es =>
    obtain⟨b,ws,f',e1,q2,rs2⟩:=Jj hC hF r2
    cases e1
    rw[I.list_inj q2 q]at rs2
    exact eqs_same I hC hF ds es n vs f f' (by simpa [eqOk] using o1) (by simpa [eqOk] using o2) rs rs2
   | tup es =>
    obtain⟨b,ws,e1,q2,rs2⟩:=Ju hC r2
    cases e1
    exact(ltu I q q2).elim
   | ty _=>simp[eqOk]at o2
   | dct _ _ _=>simp[eqOk]at o2
   | obj _ _ _ _=>simp[eqOk]at o2
   | exc _ _ _=>simp[eqOk]at o2
   | _=>simp[Rep]at r2
 | .tup ds,e,n,v,f1,f2,o1,o2,r1,r2=>by
  obtain⟨a,vs,rfl,q,rs⟩:=Ju hC r1
  cases n with
  | zero=>simp[eqOk]at o1
  | succ n =>
   cases e with
   | tup es =>
    obtain⟨b,ws,e1,q2,rs2⟩:=Ju hC r2
    cases e1
    rw[I.tuple_inj q2 q]at rs2
    exact eqs_same I hC hF ds es n vs f1 f2 (by simpa [eqOk] using o1) (by simpa [eqOk] using o2) rs rs2
   | lst g es =>
    obtain⟨b,ws,f,e1,q2,rs2⟩:=Jj hC hF r2
    cases e1
    exact(ltu I q2 q).elim
   | ty _=>simp[eqOk]at o2
   | dct _ _ _=>simp[eqOk]at o2
   | obj _ _ _ _=>simp[eqOk]at o2
   | exc _ _ _=>simp[eqOk]at o2
   | _=>simp[Rep]at r2
theorem eqs_same (I:Inv X pins σ H s) (hC:C.At X) (hF:Fr C H):∀(ds es:List D) (n:Nat) (vs:List V) (f1 f2:List Addr),eqOks n ds=true→eqOks n es=true→Reps C H ds vs f1→Reps C H es vs f2→pyEqs ds es=true
 | [],es,n,vs,f1,f2,o1,o2,r1,r2=>by
  have:=Je r1
  have h2:=Je r2
  cases es with
  | nil=>rfl
  | cons e es=>simp at this h2;omega
 | d::ds,[],n,vs,f1,f2,o1,o2,r1,r2=>by
  have:=Je r1
  have h2:=Je r2
  simp at this h2;omega
 | d::ds,e::es,n,vs,f1,f2,o1,o2,⟨v,vs',g1,g2,e1,r1,rs1,_⟩,⟨w,ws',k1,k2,e2,r2,rs2,_⟩=>by
  rw[e1]at e2;cases e2
  simp only[eqOks,Bool.and_eq_true]at o1 o2
  rw[pyEqs,Jbg I hC hF d e n v g1 k1 o1.1 o2.1 r1 r2,eqs_same I hC hF ds es n vs' g2 k2 o1.2 o2.2 rs1 rs2];rfl
end
theorem Yg {ds:List D} {vs:List V} {us:List Value} {fp} (r:Reps C H ds vs fp) (rv:Vals vs us):ds.length=us.length:=(Je r).trans rv.length
section
open SeqAt
mutual
theorem Jcg (I:Inv X pins σ H s) (hC:C.At X) (hF:Fr C H):∀(d e:D) (n:Nat) (A:Around) (v w:V) (f1 f2:List Addr) (u u':Value),eqOk n d=true→eqOk n e=true→Rep C H d v f1→Rep C H e w f2→RelV v u→RelV w u'→A.units+n+1 < cLine →
  RcAt A s u u' (pyEq d e)∧EqAt A s u u' (pyEq d e)
 | .ty i,e,n,A,v,w,f1,f2,u,u',o1,o2,r1,r2,q1,q2,hu=>by simp[eqOk]at o1
 | .dct _ _ _,e,n,A,v,w,f1,f2,u,u',o1,o2,r1,r2,q1,q2,hu=>by simp[eqOk]at o1
 | .obj _ _ _ _,e,n,A,v,w,f1,f2,u,u',o1,o2,r1,r2,q1,q2,hu=>by simp[eqOk]at o1
 | .exc _ _ _,e,n,A,v,w,f1,f2,u,u',o1,o2,r1,r2,q1,q2,hu=>by simp[eqOk]at o1
 | .non,e,n,A,v,w,f1,f2,u,u',o1,o2,r1,r2,q1,q2,hu=>by
  obtain⟨rfl,_⟩:=r1
  cases (show u=Value.none from q1)
  cases e with
  | non=>obtain⟨rfl,_⟩:=r2;cases (show u'=Value.none from q2);exact⟨RcAt.none_none,EqAt.same _⟩
  | bl b=>obtain⟨rfl,_⟩:=r2;cases (show u'=Value.bool b from q2);exact⟨RcAt.none_bool b,EqAt.none_bool b⟩
  | int j=>obtain⟨rfl,_⟩:=r2;obtain⟨t,rfl⟩:=q2;exact⟨RcAt.none_int j t,EqAt.none_int j t⟩
  | str j=>obtain⟨rfl,_⟩:=r2;obtain⟨t,rfl⟩:=q2;exact⟨RcAt.none_str j t,EqAt.none_str j t⟩
  | lst g es =>
   obtain⟨a,vs,f,rfl,q,rs⟩:=Jj hC hF r2
   cases (show u'=Value.ref a from q2)
   obtain⟨its,_,p,_⟩:=I.list q
   exact⟨RcAt.none_list p.isList (by omega),EqAt.none_list p.isList (by omega)⟩
  | tup es =>
   obtain⟨a,vs,rfl,q,rs⟩:=Ju hC r2
   cases (show u'=Value.ref a from q2)
   obtain⟨its,_,p,_⟩:=I.tuple q
   exact⟨RcAt.none_tuple p (by omega),EqAt.none_tuple p (by omega)⟩
  | ty _=>simp[eqOk]at o2
  | dct _ _ _=>simp[eqOk]at o2
  | obj _ _ _ _=>simp[eqOk]at o2
  | exc _ _ _=>simp[eqOk]at o2
 | .bl x,e,n,A,v,w,f1,f2,u,u',o1,o2,r1,r2,q1,q2,hu=>by
  obtain⟨rfl,_⟩:=r1
  cases (show u=Value.bool x from q1)
  cases e with
  | non=>obtain⟨rfl,_⟩:=r2;cases (show u'=Value.none from q2);exact⟨RcAt.bool_none x,EqAt.bool_none x⟩
  | bl b=>obtain⟨rfl,_⟩:=r2;cases (show u'=Value.bool b from q2);exact⟨RcAt.bool_bool x b,EqAt.bool_bool x b⟩
  | int j=>obtain⟨rfl,_⟩:=r2;obtain⟨t,rfl⟩:=q2;exact⟨RcAt.bool_int x j t,EqAt.bool_int x j t⟩
  | str j=>obtain⟨rfl,_⟩:=r2;obtain⟨t,rfl⟩:=q2;exact⟨RcAt.bool_str x j t,EqAt.bool_str x j t⟩
  | lst g es =>
   obtain⟨a,vs,f,rfl,q,rs⟩:=Jj hC hF r2
   cases (show u'=Value.ref a from q2)
   obtain⟨its,_,p,_⟩:=I.list q
   exact⟨RcAt.bool_list x p.isList (by omega),EqAt.bool_list x p.isList (by omega)⟩
  | tup es =>
   obtain⟨a,vs,rfl,q,rs⟩:=Ju hC r2
   cases (show u'=Value.ref a from q2)
   obtain⟨its,_,p,_⟩:=I.tuple q
   exact⟨RcAt.bool_tuple x p (by omega),EqAt.bool_tuple x p (by omega)⟩
  | ty _=>simp[eqOk]at o2
  | dct _ _ _=>simp[eqOk]at o2
  | obj _ _ _ _=>simp[eqOk]at o2
  | exc _ _ _=>simp[eqOk]at o2
 | .int x,e,n,A,v,w,f1,f2,u,u',o1,o2,r1,r2,q1,q2,hu=>by
  obtain⟨rfl,_⟩:=r1
  obtain⟨t0,rfl⟩:=q1
  cases e with
  | non=>obtain⟨rfl,_⟩:=r2;cases (show u'=Value.none from q2);exact⟨RcAt.int_none x t0,EqAt.int_none x t0⟩
  | bl b=>obtain⟨rfl,_⟩:=r2;cases (show u'=Value.bool b from q2);exact⟨RcAt.int_bool x t0 b,EqAt.int_bool x t0 b⟩
  | int j=>obtain⟨rfl,_⟩:=r2;obtain⟨t,rfl⟩:=q2;exact⟨RcAt.int_int x t0 j t,EqAt.int_int x t0 j t⟩
  | str j=>obtain⟨rfl,_⟩:=r2;obtain⟨t,rfl⟩:=q2;exact⟨RcAt.int_str x t0 j t,EqAt.int_str x t0 j t⟩
  | lst g es =>
   obtain⟨a,vs,f,rfl,q,rs⟩:=Jj hC hF r2
   cases (show u'=Value.ref a from q2)
   obtain⟨its,_,p,_⟩:=I.list q
   exact⟨RcAt.int_list x t0 p.isList (by omega),EqAt.int_list x t0 p.isList (by omega)⟩
  | tup es =>
   obtain⟨a,vs,rfl,q,rs⟩:=Ju hC r2
   cases (show u'=Value.ref a from q2)
   obtain⟨its,_,p,_⟩:=I.tuple q
   exact⟨RcAt.int_tuple x t0 p (by omega),EqAt.int_tuple x t0 p (by omega)⟩
  | ty _=>simp[eqOk]at o2
  | dct _ _ _=>simp[eqOk]at o2
  | obj _ _ _ _=>simp[eqOk]at o2
  | exc _ _ _=>simp[eqOk]at o2
 | .str x,e,n,A,v,w,f1,f2,u,u',o1,o2,r1,r2,q1,q2,hu=>by
  obtain⟨rfl,_⟩:=r1
  obtain⟨t0,rfl⟩:=q1
  cases e with
  | non=>obtain⟨rfl,_⟩:=r2;cases (show u'=Value.none from q2);exact⟨RcAt.str_none x t0,EqAt.str_none x t0⟩
  | bl b=>obtain⟨rfl,_⟩:=r2;cases (show u'=Value.bool b from q2);exact⟨RcAt.str_bool x t0 b,EqAt.str_bool x t0 b⟩
  | int j=>obtain⟨rfl,_⟩:=r2;obtain⟨t,rfl⟩:=q2;exact⟨RcAt.str_int x t0 j t,EqAt.str_int x t0 j t⟩
  | str j=>obtain⟨rfl,_⟩:=r2;obtain⟨t,rfl⟩:=q2;exact⟨RcAt.str_str x t0 j t,EqAt.str_str x t0 j t⟩
  | lst g es =>
   obtain⟨a,vs,f,rfl,q,rs⟩:=Jj hC hF r2
   cases (show u'=Value.ref a from q2)
   obtain⟨its,_,p,_⟩:=I.list q
   exact⟨RcAt.str_list x t0 p.isList (by omega),EqAt.str_list x t0 p.isList (by omega)⟩
  | tup es =>
   obtain⟨a,vs,rfl,q,rs⟩:=Ju hC r2
   cases (show u'=Value.ref a from q2)
   obtain⟨its,_,p,_⟩:=I.tuple q
   exact⟨RcAt.str_tuple x t0 p (by omega),EqAt.str_tuple x t0 p (by omega)⟩
  | ty _=>simp[eqOk]at o2
  | dct _ _ _=>simp[eqOk]at o2
  | obj _ _ _ _=>simp[eqOk]at o2
  | exc _ _ _=>simp[eqOk]at o2
 | .lst g ds,e,n,A,v,w,f1,f2,u,u',o1,o2,r1,r2,q1,q2,hu=>by
  have r1':=r1
  have r2':=r2
  have q2':=q2
  obtain⟨a,vs,f,rfl,q,rs⟩:=Jj hC hF r1
  cases (show u=Value.ref a from q1)
  obtain⟨its,rv,p,_⟩:=I.list q
  have hi:=p.isList
  cases e with
  | non=>obtain⟨rfl,_⟩:=r2;cases (show u'=Value.none from q2);exact⟨RcAt.list_none hi (by omega),EqAt.list_none hi (by omega)⟩
  | bl b=>obtain⟨rfl,_⟩:=r2;cases (show u'=Value.bool b from q2);exact⟨RcAt.list_bool b hi (by omega),EqAt.list_bool b hi (by omega)⟩
  | int j=>obtain⟨rfl,_⟩:=r2;obtain⟨t,rfl⟩:=q2;exact⟨RcAt.list_int j t hi (by omega),EqAt.list_int j t hi (by omega)⟩
  | str j=>obtain⟨rfl,_⟩:=r2;obtain⟨t,rfl⟩:=q2;exact⟨RcAt.list_str j t hi (by omega),EqAt.list_str j t hi (by omega)⟩
  | tup es =>
   obtain⟨b,ws,rfl,k,rs2⟩:=Ju hC r2
   cases (show u'=Value.ref b from q2)
   obtain⟨its2,_,p2,_⟩:=I.tuple k
   exact⟨RcAt.list_tuple hi p2 (by omega),EqAt.list_tuple hi p2 (by omega)⟩
  | ty _=>simp[eqOk]at o2
  | dct _ _ _=>simp[eqOk]at o2
  | obj _ _ _ _=>simp[eqOk]at o2
  | exc _ _ _=>simp[eqOk]at o2
  | lst g2 es =>
   cases n with
   | zero=>simp[eqOk]at o1
   | succ n =>
    obtain⟨b,ws,f',rfl,k,rs2⟩:=Jj hC hF r2
    cases (show u'=Value.ref b from q2)
    obtain⟨its2,rv2,p2,_⟩:=I.list k
    have hi2:=p2.isList
    have n1:=Yg rs rv
    have n2:=Yg rs2 rv2
    have he:=rc_reps I hC hF ds es n A.in1 vs ws f f' its its2 (by simpa [eqOk] using o1) (by simpa [eqOk] using o2) rs rs2 rv rv2 (by show A.units+1+n+1 < cLine;omega)
    have rc:RcAt A s (.ref a) (.ref b) (pyEqs ds es):=by
     by_cases hsz:ds.length=es.length
     ·rw[←UJ hsz,n1]
      have:=RcAt.lists (A:=A) (e:=fun j=>UQ ds es j) hi hi2 (by simp;omega) (by omega) (fun j h1 h2=>by
       have:=he j (by simpa using h1) (by simpa using h2)
       simpa using this)
      simpa using this
     ·rw[UG hsz]
      exact RcAt.lists_lengths hi hi2 (by simp;omega) (by omega)
    refine⟨rc,?_⟩
    by_cases hab:a=b
    ·subst hab
     have:=Jbg I hC hF _ _ (n+1) _ f1 f2 o1 o2 r1' r2'
     rw[this];exact EqAt.same _
    ·exact EqAt.of_refs hab rc
 | .tup ds,e,n,A,v,w,f1,f2,u,u',o1,o2,r1,r2,q1,q2,hu=>by
  have r1':=r1
  have r2':=r2
  obtain⟨a,vs,rfl,q,rs⟩:=Ju hC r1
  cases (show u=Value.ref a from q1)
  obtain⟨its,rv,p,_⟩:=I.tuple q
  have hi:s.heap.IsTuple a its.toArray:=p
  cases e with
  | non=>obtain⟨rfl,_⟩:=r2;cases (show u'=Value.none from q2);exact⟨RcAt.tuple_none hi (by omega),EqAt.tuple_none hi (by omega)⟩
  | bl b=>obtain⟨rfl,_⟩:=r2;cases (show u'=Value.bool b from q2);exact⟨RcAt.tuple_bool b hi (by omega),EqAt.tuple_bool b hi (by omega)⟩
  | int j=>obtain⟨rfl,_⟩:=r2;obtain⟨t,rfl⟩:=q2;exact⟨RcAt.tuple_int j t hi (by omega),EqAt.tuple_int j t hi (by omega)⟩
  | str j=>obtain⟨rfl,_⟩:=r2;obtain⟨t,rfl⟩:=q2;exact⟨RcAt.tuple_str j t hi (by omega),EqAt.tuple_str j t hi (by omega)⟩
  | lst g es =>
   obtain⟨b,ws,f,rfl,k,rs2⟩:=Jj hC hF r2
   cases (show u'=Value.ref b from q2)
   obtain⟨its2,_,p2,_⟩:=I.list k
   exact⟨RcAt.tuple_list hi p2.isList (by omega),EqAt.tuple_list hi p2.isList (by omega)⟩
  | ty _=>simp[eqOk]at o2
  | dct _ _ _=>simp[eqOk]at o2
  | obj _ _ _ _=>simp[eqOk]at o2
  | exc _ _ _=>simp[eqOk]at o2
  | tup es =>
   cases n with
   | zero=>simp[eqOk]at o1
   | succ n =>
    obtain⟨b,ws,rfl,k,rs2⟩:=Ju hC r2
    cases (show u'=Value.ref b from q2)
    obtain⟨its2,rv2,p2,_⟩:=I.tuple k
    have hi2:s.heap.IsTuple b its2.toArray:=p2
    have n1:=Yg rs rv
    have n2:=Yg rs2 rv2
    have he:=rc_reps I hC hF ds es n A.in1 vs ws f1 f2 its its2 (by simpa [eqOk] using o1) (by simpa [eqOk] using o2) rs rs2 rv rv2 (by show A.units+1+n+1 < cLine;omega)
    have rc:RcAt A s (.ref a) (.ref b) (pyEqs ds es):=by
     have z:=RcAt.tuples (A:=A) (e:=fun j=>UQ ds es j) hi hi2 (by omega) (fun j h1 h2=>by
      have:=he j (by simpa using h1) (by simpa using h2)
      simpa using this)
     have e2:((List.range (min its.toArray.size its2.toArray.size)).all (fun j=>UQ ds es j) && its.toArray.size == its2.toArray.size)=pyEqs ds es:=by
      rw[List.size_toArray,List.size_toArray,←n1,←n2]
      by_cases hsz:ds.length=es.length
      ·rw[←UJ hsz,hsz];simp
      ·rw[UG hsz];simp[hsz]
     rw[e2]at z;exact z
    refine⟨rc,?_⟩
    by_cases hab:a=b
    ·subst hab
     have:=Jbg I hC hF _ _ (n+1) _ f1 f2 o1 o2 r1' r2'
     rw[this];exact EqAt.same _
    ·exact EqAt.of_refs hab rc
theorem rc_reps (I:Inv X pins σ H s) (hC:C.At X) (hF:Fr C H):∀(ds es:List D) (n:Nat) (A:Around) (vs ws:List V) (f1 f2:List Addr) (us us':List Value),eqOks n ds=true→eqOks n es=true→Reps C H ds vs f1→Reps C H es ws f2→Vals vs us→Vals ws us'→A.units+n+1 < cLine →
  ∀j (h1:j < us.length) (h2:j < us'.length),EqAt A s us[j] us'[j] (UQ ds es j)
 | [],es,n,A,vs,ws,f1,f2,us,us',o1,o2,r1,r2,q1,q2,hu=>fun j h1 h2=>by
  have:=Yg r1 q1
  simp at this;omega
 | d::ds,[],n,A,vs,ws,f1,f2,us,us',o1,o2,r1,r2,q1,q2,hu=>fun j h1 h2=>by
  have:=Yg r2 q2
  simp at this;omega
 | d::ds,e::es,n,A,vs,ws,f1,f2,us,us',o1,o2,⟨v,vs',g1,g2,e1,r1,rs1,_⟩,⟨w,ws',k1,k2,e2,r2,rs2,_⟩,q1,q2,hu=>fun j h1 h2=>by
  subst e1 e2
  simp only[eqOks,Bool.and_eq_true]at o1 o2
  cases q1 with
  | cons p1 q1 =>
   cases q2 with
   | cons p2 q2 =>
    cases j with
    | zero=>exact(Jcg I hC hF d e n A v w g1 k1 _ _ o1.1 o2.1 r1 r2 p1 p2 hu).2
    | succ j =>
     have:=rc_reps I hC hF ds es n A vs' ws' g2 k2 _ _ o1.2 o2.2 rs1 rs2 q1 q2 hu j (by simpa using h1) (by simpa using h2)
     simpa [UQ] using this
end
end
def pEq (d e:D):Option D:=if eqOk 40 d && eqOk 40 e then some (.bl (pyEq d e)) else none
def pNe (d e:D):Option D:=if eqOk 40 d && eqOk 40 e then some (.bl (!pyEq d e)) else none
theorem pEq_inv {d e z} (h:pEq d e=some z):eqOk 40 d=true∧eqOk 40 e=true∧z=.bl (pyEq d e):=by
 unfold pEq at h
 split at h
 ·rename_i q;cases h;have:=Bool.and_eq_true_iff.mp q;exact⟨this.1,this.2,rfl⟩
 ·cases h
theorem pNe_inv {d e z} (h:pNe d e=some z):eqOk 40 d=true∧eqOk 40 e=true∧z=.bl (!pyEq d e):=by
 unfold pNe at h
 split at h
 ·rename_i q;cases h;have:=Bool.and_eq_true_iff.mp q;exact⟨this.1,this.2,rfl⟩
 ·cases h
theorem ZD {k:Nat} (hr:Room k X.A):OD2 X (compareOp .Eq) pEq:=by
 intro pins s σ H x y v u Q I rx ry ⟨C,dx,dy,fx,fy,d,hC,hF,r1,r2,e,kk⟩
 obtain⟨o1,o2,rfl⟩:=pEq_inv e
 have:=(Jcg I hC hF dx dy 40 X.A x y fx fy v u o1 o2 r1 r2 rx ry (by have:=hr.units;omega)).1
 exact this X.prog X.w X.xe _ ⟨.bl _,H,I,rfl,kk.here ⟨rfl,rfl⟩⟩
end
end VS
namespace VS
open PySem L2 SeqAt
section
variable {X:Cx} {W:WX} {M M1 M2 M3 Rs R1 R2 R3:List Nat} {e a b c:Expr} {es:List Expr} {ca cb cc:CE} {cs:CA} {pos:Pos}
variable {pins:List (Addr × Obj)} {σ:St} {H:Hp} {s:Shared} {C:Ctx}
theorem rcne_rep (I:Inv X pins σ H s) (hC:C.At X) (hF:Fr C H):∀(d e:D) (n:Nat) (A:Around) (v w:V) (f1 f2:List Addr) (u u':Value),eqOk n d=true→eqOk n e=true→Rep C H d v f1→Rep C H e w f2→RelV v u→RelV w u'→A.units+n+1 < cLine →
  RcNeAt A s u u' (!pyEq d e)
 | .ty i,e,n,A,v,w,f1,f2,u,u',o1,o2,r1,r2,q1,q2,hu=>by simp[eqOk]at o1
 | .dct _ _ _,e,n,A,v,w,f1,f2,u,u',o1,o2,r1,r2,q1,q2,hu=>by simp[eqOk]at o1
 | .obj _ _ _ _,e,n,A,v,w,f1,f2,u,u',o1,o2,r1,r2,q1,q2,hu=>by simp[eqOk]at o1
 | .exc _ _ _,e,n,A,v,w,f1,f2,u,u',o1,o2,r1,r2,q1,q2,hu=>by simp[eqOk]at o1
 | .non,e,n,A,v,w,f1,f2,u,u',o1,o2,r1,r2,q1,q2,hu=>by
  obtain⟨rfl,_⟩:=r1
  cases (show u=Value.none from q1)
  cases e with
  | non=>obtain⟨rfl,_⟩:=r2;cases (show u'=Value.none from q2);exact RcNeAt.none_none
  | bl b=>obtain⟨rfl,_⟩:=r2;cases (show u'=Value.bool b from q2);exact RcNeAt.none_bool b
  | int j=>obtain⟨rfl,_⟩:=r2;obtain⟨t,rfl⟩:=q2;exact RcNeAt.none_int j t
  | str j=>obtain⟨rfl,_⟩:=r2;obtain⟨t,rfl⟩:=q2;exact RcNeAt.none_str j t
  | lst g es =>
   obtain⟨a,vs,f,rfl,q,rs⟩:=Jj hC hF r2
   cases (show u'=Value.ref a from q2)
   obtain⟨its,_,p,_⟩:=I.list q
   exact RcNeAt.none_list p.isList (by omega)
  | tup es =>
   obtain⟨a,vs,rfl,q,rs⟩:=Ju hC r2
   cases (show u'=Value.ref a from q2)
   obtain⟨its,_,p,_⟩:=I.tuple q
   exact RcNeAt.none_tuple p (by omega)
  | ty _=>simp[eqOk]at o2
  | dct _ _ _=>simp[eqOk]at o2
  | obj _ _ _ _=>simp[eqOk]at o2
  | exc _ _ _=>simp[eqOk]at o2
 | .bl x,e,n,A,v,w,f1,f2,u,u',o1,o2,r1,r2,q1,q2,hu=>by
  obtain⟨rfl,_⟩:=r1
  cases (show u=Value.bool x from q1)
  cases e with
  | non=>obtain⟨rfl,_⟩:=r2;cases (show u'=Value.none from q2);exact RcNeAt.bool_none x
  | bl b=>obtain⟨rfl,_⟩:=r2;cases (show u'=Value.bool b from q2);exact RcNeAt.bool_bool x b
  | int j=>obtain⟨rfl,_⟩:=r2;obtain⟨t,rfl⟩:=q2;exact RcNeAt.bool_int x j t
  | str j=>obtain⟨rfl,_⟩:=r2;obtain⟨t,rfl⟩:=q2;exact RcNeAt.bool_str x j t
  | lst g es =>
   obtain⟨a,vs,f,rfl,q,rs⟩:=Jj hC hF r2
   cases (show u'=Value.ref a from q2)
   obtain⟨its,_,p,_⟩:=I.list q
   exact RcNeAt.bool_list x p.isList (by omega)
  | tup es =>
   obtain⟨a,vs,rfl,q,rs⟩:=Ju hC r2
   cases (show u'=Value.ref a from q2)
   obtain⟨its,_,p,_⟩:=I.tuple q
   exact RcNeAt.bool_tuple x p (by omega)
  | ty _=>simp[eqOk]at o2
  | dct _ _ _=>simp[eqOk]at o2
  | obj _ _ _ _=>simp[eqOk]at o2
  | exc _ _ _=>simp[eqOk]at o2
 | .int x,e,n,A,v,w,f1,f2,u,u',o1,o2,r1,r2,q1,q2,hu=>by
  obtain⟨rfl,_⟩:=r1
  obtain⟨t0,rfl⟩:=q1
  cases e with
  | non=>obtain⟨rfl,_⟩:=r2;cases (show u'=Value.none from q2);exact RcNeAt.int_none x t0
  | bl b=>obtain⟨rfl,_⟩:=r2;cases (show u'=Value.bool b from q2);exact RcNeAt.int_bool x t0 b
  | int j=>obtain⟨rfl,_⟩:=r2;obtain⟨t,rfl⟩:=q2;exact RcNeAt.int_int x t0 j t
  | str j=>obtain⟨rfl,_⟩:=r2;obtain⟨t,rfl⟩:=q2;exact RcNeAt.int_str x t0 j t
  | lst g es =>
   obtain⟨a,vs,f,rfl,q,rs⟩:=Jj hC hF r2
   cases (show u'=Value.ref a from q2)
   obtain⟨its,_,p,_⟩:=I.list q
   exact RcNeAt.int_list x t0 p.isList (by omega)
  | tup es =>
   obtain⟨a,vs,rfl,q,rs⟩:=Ju hC r2
   cases (show u'=Value.ref a from q2)
   obtain⟨its,_,p,_⟩:=I.tuple q
   exact RcNeAt.int_tuple x t0 p (by omega)
  | ty _=>simp[eqOk]at o2
  | dct _ _ _=>simp[eqOk]at o2
  | obj _ _ _ _=>simp[eqOk]at o2
  | exc _ _ _=>simp[eqOk]at o2
 | .str x,e,n,A,v,w,f1,f2,u,u',o1,o2,r1,r2,q1,q2,hu=>by
  obtain⟨rfl,_⟩:=r1
  obtain⟨t0,rfl⟩:=q1
  cases e with
  | non=>obtain⟨rfl,_⟩:=r2;cases (show u'=Value.none from q2);exact RcNeAt.str_none x t0
  | bl b=>obtain⟨rfl,_⟩:=r2;cases (show u'=Value.bool b from q2);exact RcNeAt.str_bool x t0 b
  | int j=>obtain⟨rfl,_⟩:=r2;obtain⟨t,rfl⟩:=q2;exact RcNeAt.str_int x t0 j t
  | str j=>obtain⟨rfl,_⟩:=r2;obtain⟨t,rfl⟩:=q2;exact RcNeAt.str_str x t0 j t
  | lst g es =>
   obtain⟨a,vs,f,rfl,q,rs⟩:=Jj hC hF r2
   cases (show u'=Value.ref a from q2)
   obtain⟨its,_,p,_⟩:=I.list q
   exact RcNeAt.str_list x t0 p.isList (by omega)
  | tup es =>
   obtain⟨a,vs,rfl,q,rs⟩:=Ju hC r2
   cases (show u'=Value.ref a from q2)
   obtain⟨its,_,p,_⟩:=I.tuple q
   exact RcNeAt.str_tuple x t0 p (by omega)
  | ty _=>simp[eqOk]at o2
  | dct _ _ _=>simp[eqOk]at o2
  | obj _ _ _ _=>simp[eqOk]at o2
  | exc _ _ _=>simp[eqOk]at o2
 | .lst g ds,e,n,A,v,w,f1,f2,u,u',o1,o2,r1,r2,q1,q2,hu=>by
  have r1':=r1
  have r2':=r2
  have q2':=q2
  obtain⟨a,vs,f,rfl,q,rs⟩:=Jj hC hF r1
  cases (show u=Value.ref a from q1)
  obtain⟨its,rv,p,_⟩:=I.list q
  have hi:=p.isList
  cases e with
  | non=>obtain⟨rfl,_⟩:=r2;cases (show u'=Value.none from q2);exact RcNeAt.list_none hi (by omega)
  | bl b=>obtain⟨rfl,_⟩:=r2;cases (show u'=Value.bool b from q2);exact RcNeAt.list_bool b hi (by omega)
  | int j=>obtain⟨rfl,_⟩:=r2;obtain⟨t,rfl⟩:=q2;exact RcNeAt.list_int j t hi (by omega)
  | str j=>obtain⟨rfl,_⟩:=r2;obtain⟨t,rfl⟩:=q2;exact RcNeAt.list_str j t hi (by omega)
  | tup es =>
   obtain⟨b,ws,rfl,k,rs2⟩:=Ju hC r2
   cases (show u'=Value.ref b from q2)
   obtain⟨its2,_,p2,_⟩:=I.tuple k
   exact RcNeAt.list_tuple hi p2 (by omega)
  | ty _=>simp[eqOk]at o2
  | dct _ _ _=>simp[eqOk]at o2
  | obj _ _ _ _=>simp[eqOk]at o2
  | exc _ _ _=>simp[eqOk]at o2
  | lst g2 es =>
   cases n with
   | zero=>simp[eqOk]at o1
   | succ n =>
    obtain⟨b,ws,f',rfl,k,rs2⟩:=Jj hC hF r2
    cases (show u'=Value.ref b from q2)
    obtain⟨its2,rv2,p2,_⟩:=I.list k
    have hi2:=p2.isList
    have n1:=Yg rs rv
    have n2:=Yg rs2 rv2
    have he:=rc_reps I hC hF ds es n A.in1 vs ws f f' its its2 (by simpa [eqOk] using o1) (by simpa [eqOk] using o2) rs rs2 rv rv2 (by show A.units+1+n+1 < cLine;omega)
    show RcNeAt A s (.ref a) (.ref b) (!pyEqs ds es)
    by_cases hsz:ds.length=es.length
    ·rw[←UJ hsz,n1]
     have:=RcNeAt.lists (A:=A) (e:=fun j=>UQ ds es j) hi hi2 (by simp;omega) (by omega) (fun j h1 h2=>by
      have:=he j (by simpa using h1) (by simpa using h2)
      simpa using this)
     simpa using this
    ·rw[UG hsz]
     exact RcNeAt.lists_lengths hi hi2 (by simp;omega) (by omega)
 | .tup ds,e,n,A,v,w,f1,f2,u,u',o1,o2,r1,r2,q1,q2,hu=>by
  have r1':=r1
  have r2':=r2
  obtain⟨a,vs,rfl,q,rs⟩:=Ju hC r1
  cases (show u=Value.ref a from q1)
  obtain⟨its,rv,p,_⟩:=I.tuple q
  have hi:s.heap.IsTuple a its.toArray:=p
  cases e with
  | non=>obtain⟨rfl,_⟩:=r2;cases (show u'=Value.none from q2);exact RcNeAt.tuple_none hi (by omega)
  | bl b=>obtain⟨rfl,_⟩:=r2;cases (show u'=Value.bool b from q2);exact RcNeAt.tuple_bool b hi (by omega)
  | int j=>obtain⟨rfl,_⟩:=r2;obtain⟨t,rfl⟩:=q2;exact RcNeAt.tuple_int j t hi (by omega)
  | str j=>obtain⟨rfl,_⟩:=r2;obtain⟨t,rfl⟩:=q2;exact RcNeAt.tuple_str j t hi (by omega)
  | lst g es =>
   obtain⟨b,ws,f,rfl,k,rs2⟩:=Jj hC hF r2
   cases (show u'=Value.ref b from q2)
   obtain⟨its2,_,p2,_⟩:=I.list k
   exact RcNeAt.tuple_list hi p2.isList (by omega)
  | ty _=>simp[eqOk]at o2
  | dct _ _ _=>simp[eqOk]at o2
  | obj _ _ _ _=>simp[eqOk]at o2
  | exc _ _ _=>simp[eqOk]at o2
  | tup es =>
   cases n with
   | zero=>simp[eqOk]at o1
   | succ n =>
    obtain⟨b,ws,rfl,k,rs2⟩:=Ju hC r2
    cases (show u'=Value.ref b from q2)
    obtain⟨its2,rv2,p2,_⟩:=I.tuple k
    have hi2:s.heap.IsTuple b its2.toArray:=p2
    have n1:=Yg rs rv
    have n2:=Yg rs2 rv2
    have he:=rc_reps I hC hF ds es n A.in1 vs ws f1 f2 its its2 (by simpa [eqOk] using o1) (by simpa [eqOk] using o2) rs rs2 rv rv2 (by show A.units+1+n+1 < cLine;omega)
    show RcNeAt A s (.ref a) (.ref b) (!pyEqs ds es)
    have z:=RcNeAt.tuples (A:=A) (e:=fun j=>UQ ds es j) hi hi2 (by omega) (fun j h1 h2=>by
     have:=he j (by simpa using h1) (by simpa using h2)
     simpa using this)
    have e2:((List.range (min its.toArray.size its2.toArray.size)).all (fun j=>UQ ds es j) && its.toArray.size == its2.toArray.size)=pyEqs ds es:=by
     rw[List.size_toArray,List.size_toArray,←n1,←n2]
     by_cases hsz:ds.length=es.length
     ·rw[←UJ hsz,hsz];simp
     ·rw[UG hsz];simp[hsz]
    rw[e2]at z;exact z
theorem Zf {k:Nat} (hr:Room k X.A):OD2 X (compareOp .NotEq) pNe:=by
 intro pins s σ H x y v u Q I rx ry ⟨C,dx,dy,fx,fy,d,hC,hF,r1,r2,e,kk⟩
 obtain⟨o1,o2,rfl⟩:=pNe_inv e
 have:=rcne_rep I hC hF dx dy 40 X.A x y fx fy v u o1 o2 r1 r2 rx ry (by have:=hr.units;omega)
 exact this X.prog X.w X.xe _ ⟨.bl _,H,I,rfl,kk.here ⟨rfl,rfl⟩⟩
theorem JY.step {fs fs1:FPs} {env env1:Env} {H H1:Hp} {tf:List Addr} {Q:VK} {z:R D} (s1:Step M1 tf fs env H fs1 env1 H1) (po:JY W C (M1++M2) tf fs env σ H Q z):JY W C M2 tf fs1 env1 σ H1 Q z:=by
 cases z with
 | err=>exact po
 | ex x env'=>exact fun cv dd fs' H' G' s=>po cv dd fs' H' G' (s1.trans s)
 | ok d env'=>exact fun v fs' H' fp G' s r=>po v fs' H' fp G' (s1.trans s) r
theorem JY.done {fs fs1:FPs} {env env1:Env} {H H1:Hp} {tf:List Addr} {Q:VK} {d:D} {v:V} (s1:Step M1 tf fs env H fs1 env1 H1) (po:JY W C (M1++M2) tf fs env σ H Q (.ok d env1)) (G1:Good C fs1 env1 σ H1 tf) (r:Rep C H1 d v []):Q v H1 :=
 po v fs1 H1 [] (by simpa using G1) (s1.weak (fun i hi=>List.mem_append_left _ hi) fun _ z=>z) r
variable {ct:CT}
end
end VS
namespace VS
open PySem L2 SeqAt
section
variable {X:Cx} {W:WX} {M M1 M2 M3 Rs R1 R2 R3:List Nat} {e a b c:Expr} {es:List Expr} {ca cb cc:CE} {cs:CA} {pos p:Pos}
variable {pins:List (Addr × Obj)} {σ:St} {H:Hp} {s:Shared} {C:Ctx}
def D.key:D→Option Key
 | .int i=>some (.inl i)
 | .str s=>some (.inr s)
 | _=>none
theorem ZJ {d:D} {k:Key} {v:V} {fp} (h:d.key=some k) (r:Rep C H d v fp):v=kV k:=by
 cases d<;>simp[D.key]at h<;>subst h
 ·exact r.1
 ·exact r.1
def Yb:List Key→List D→Key→Option D
 | k0::ks,d::ds,k=>if k0=k then some d else Yb ks ds k
 | _,_,_=>none
theorem ZX:∀{kvs:List (Key × V)} {ds:List D} {fp:List Addr} {k:Key} {d:D},Reps C H ds (kvs.map (·.2)) fp→Yb (kvs.map (·.1)) ds k=some d →
  ∃v g1 f g2,valV kvs k=some v∧Rep C H d v f∧fp=g1++f++g2
 | [],ds,fp,k,d,r,h=>by simp[Yb]at h
 | kv::kvs,[],fp,k,d,r,h=>by simp[Yb]at h
 | kv::kvs,d0::ds,fp,k,d,⟨v,vs',f1,f2,e,r,rs,e2⟩,h=>by
  simp only[List.map_cons,List.cons.injEq]at e
  obtain⟨rfl,rfl⟩:=e
  simp only[List.map_cons,Yb]at h
  by_cases hk:kv.1=k
  ·rw[if_pos hk]at h
   cases h
   exact⟨kv.2,[],f1,f2,valV_pos hk,r,by simpa using e2⟩
  ·rw[if_neg hk]at h
   obtain⟨w,g1,f,g2,h1,h2,h3⟩:=ZX rs h
   exact⟨w,f1++g1,f,g2,by rw[valV_neg hk];exact h1,h2,by rw[e2,h3];simp[List.append_assoc]⟩
theorem Qs:∀{kvs:List (Key × V)} {ds:List D} {fp:List Addr} {k:Key},Reps C H ds (kvs.map (·.2)) fp→Yb (kvs.map (·.1)) ds k=none→valV kvs k=none
 | [],ds,fp,k,r,h=>rfl
 | kv::kvs,[],fp,k,⟨h1,_⟩,h=>by simp at h1
 | kv::kvs,d0::ds,fp,k,⟨v,vs',f1,f2,e,r,rs,e2⟩,h=>by
  simp only[List.map_cons,List.cons.injEq]at e
  obtain⟨rfl,rfl⟩:=e
  simp only[List.map_cons,Yb]at h
  by_cases hk:kv.1=k
  ·rw[if_pos hk]at h;cases h
  ·rw[if_neg hk]at h
   rw[valV_neg hk];exact Qs rs h
theorem UT {g ks ds v fp} (hF:Fr C H) (r:Rep C H (.dct g ks ds) v fp):∃a kvs f1 f,v=.ref a∧Rd H a (.dK kvs)∧kvs.map (·.1)=ks∧Reps C H ds (kvs.map (·.2)) f∧fp=f1++f:=by
 obtain⟨a,kvs,f1,f2,e,n,q,r,_,e2⟩:=r
 exact⟨a,kvs,f1,f2,e,(Nd.rd n hF).rd (fun xs z=>nomatch z),q.1,r,e2⟩
theorem JbV {ds:List D} {vs:List V} {fp:List Addr} {i:Int} {d:D} (r:Reps C H ds vs fp) (h:atI ds i=some d):∃v g1 f g2,atI vs i=some v∧Rep C H d v f∧fp=g1++f++g2:=by
 unfold atI at h ⊢
 rw[Je r]at h
 cases e:ixN vs.length i with
 | none=>rw[e]at h;cases h
 | some j =>
  rw[e]at h
  exact Zj r h
def ixD:D→D→Option D
 | .lst _ ds,.int i=>atI ds i
 | .tup ds,.int i=>atI ds i
 | .str s,.int i=>if s.length≤sizeLine then (atI s.cps.toList i).map fun c=>.str ⟨#[c]⟩ else none
 | .dct _ ks ds,k=>k.key.bind fun k=>Yb ks ds k
 | _,_=>none
def rIxD:L2.R2:=fun x y H Q=>∃a v,x=.ref a∧DGet H a y (some v)∧Q v H
theorem Jcq {k:Nat} (hr:Room k X.A):IxR X rIxD:=by
 intro value slice pins s σ H x y v u Q I rx ry h hs
 obtain⟨a,z,rfl,g,q⟩:=h
 cases rx
 refine PyProof.Rows.tail_any (ops:=[.ref a,u]) (dict_typeIs I g) PySem.F.slot_dict_getitem.lookup ?_ hs
 exact d_getItem (by have:=hr.units;omega) I g ry fun w' s' I' r'=>⟨z,H,I',r',q⟩
def cIdx (ca cb:CE):CE:=c2 ixD ca cb
theorem Yc {k:Nat} (hr:Room k X.A) (ha:SB X W M1 R1 a ca) (hb:SB X W M2 R2 b cb) (hs:PlainIx b:=by exact fun _ _=>rfl) (hd:djB R1 M2=true:=by decide):SB X W (M1++M2) R1 (.Subscript a b pos) (cIdx ca cb):=by
 obtain⟨ta,tb,pa,pb,q⟩:=Jbo ha hb hd
 refine⟨tOp (fun x y H Q=>rIx X.K x y H Q∨rIxD x y H Q) ta tb,pe_ix (ix_seq.or (Jcq hr)) pa pb hs,fun C fs env σ H tf Q hC G po=>q C fs env σ H tf _ hC G ?_⟩
 unfold cIdx c2 at po
 cases e1:cTwo ca cb env with
 | err=>rw[e1]at po;exact po
 | ex x env'=>rw[e1]at po;exact po
 | ok d env' =>
  rw[e1]at po
  intro x y fs' H' f1 f2 own G' s r1 r2 i1 i2
  have po':JaG W C (M1++M2) R1 tf fs env σ H Q (R.of (ixD d.1 d.2) env'):=po
  cases e2:ixD d.1 d.2 with
  | none=>rw[e2]at po';exact po'.elim
  | some z =>
   rw[e2]at po'
   obtain⟨d1,d2⟩:=d
   have sub:∀{g1 f g2:List Addr},(∀b∈g1++f++g2,b∈f1)→In R1 own fs' f:=fun {g1 f g2} h b hb=>i1 b (h b (by simp[hb]))
   have fin:∀(v:V) (g1 f g2:List Addr),Rep C H' z v f→(∀b∈g1++f++g2,b∈f1)→Q v H':=fun v g1 f g2 rv hf=>po' v fs' H' f own G' s rv (sub hf)
   cases d1 with
   | lst g ds =>
    cases d2 with
    | int i =>
     obtain⟨ad,vs,g1,g2,rfl,n,rs,_,ef⟩:=r1
     obtain⟨rfl,_⟩:=r2
     obtain⟨v,k1,f,k2,h1,h2,h3⟩:=JbV rs e2
     refine .inl (.inl ⟨ad,vs,i,v,rfl,rfl,by have:=(Nd.rd n G'.fr).sql;rwa[hC.1]at this,h1,fin v k1 f k2 h2 fun b hb=>?_⟩)
     rw[ef,h3];exact List.mem_append_right _ hb
    | _=>simp[ixD]at e2
   | tup ds =>
    cases d2 with
    | int i =>
     obtain⟨ad,vs,rfl,n,rs⟩:=r1
     obtain⟨rfl,_⟩:=r2
     obtain⟨v,k1,f,k2,h1,h2,h3⟩:=JbV rs e2
     refine .inl (.inr (.inl ⟨ad,vs,i,v,rfl,rfl,by rwa[hC.1]at n,h1,fin v k1 f k2 h2 fun b hb=>?_⟩))
     rw[h3];exact hb
    | _=>simp[ixD]at e2
   | str z0 =>
    cases d2 with
    | int i =>
     obtain⟨rfl,_⟩:=r1
     obtain⟨rfl,_⟩:=r2
     simp only[ixD]at e2
     split at e2
     ·rename_i hz
      obtain⟨ch,h1,rfl⟩:=Option.map_eq_some_iff.mp e2
      exact .inl (.inr (.inr ⟨z0,i,ch,rfl,rfl,hz,h1,fin _ [] [] [] ⟨rfl,rfl⟩ (fun b hb=>by simp at hb)⟩))
     ·cases e2
    | _=>simp[ixD]at e2
   | dct g ks ds =>
    obtain⟨ad,kvs,g1,g2,rfl,hd',hk,rs,ef⟩:=UT G'.fr r1
    cases hk2:d2.key with
    | none=>simp[ixD,hk2]at e2
    | some ky =>
     simp only[ixD,hk2,Option.bind_some]at e2
     rw[←hk]at e2
     obtain⟨v,k1,f,k2,h1,h2,h3⟩:=ZX rs e2
     have ey:=ZJ hk2 r2
     refine .inr ⟨ad,v,rfl,.inl ⟨kvs,ky,hd',ey,h1.symm⟩,fin v k1 f k2 h2 fun b hb=>?_⟩
     rw[ef,h3];exact List.mem_append_right _ hb
   | _=>simp[ixD]at e2
mutual
theorem Jck (I:Inv X pins σ H s) (hC:C.At X) (hF:Fr C H):∀(d e:D) (n:Nat) (v:V) (f1 f2:List Addr),eqOk n d=true→eqOk n e=true→Rep C H d v f1→Rep C H e v f2→∀x,pyEq d x=pyEq e x
 | .non,e,n,v,f1,f2,o1,o2,r1,r2=>by
  obtain⟨rfl,_⟩:=r1
  cases e<;>simp[Rep]at r2<;>exact fun _=>rfl
 | .bl b,e,n,v,f1,f2,o1,o2,r1,r2=>by
  obtain⟨rfl,_⟩:=r1
  cases e<;>simp[Rep]at r2
  rw[r2.1];exact fun _=>rfl
 | .int i,e,n,v,f1,f2,o1,o2,r1,r2=>by
  obtain⟨rfl,_⟩:=r1
  cases e<;>simp[Rep]at r2
  rw[r2.1];exact fun _=>rfl
 | .str i,e,n,v,f1,f2,o1,o2,r1,r2=>by
  obtain⟨rfl,_⟩:=r1
  cases e<;>simp[Rep]at r2
  rw[r2.1];exact fun _=>rfl
 | .ty i,e,n,v,f1,f2,o1,o2,r1,r2=>by simp[eqOk]at o1
 | .dct _ _ _,e,n,v,f1,f2,o1,o2,r1,r2=>by simp[eqOk]at o1
 | .obj _ _ _ _,e,n,v,f1,f2,o1,o2,r1,r2=>by simp[eqOk]at o1
 | .exc _ _ _,e,n,v,f1,f2,o1,o2,r1,r2=>by simp[eqOk]at o1
 | .lst g ds,e,n,v,f1,f2,o1,o2,r1,r2=>by
  obtain⟨a,vs,f,rfl,q,rs⟩:=Jj hC hF r1
  cases n with
  | zero=>simp[eqOk]at o1
  | succ n =>
   cases e with
   | lst g2 es =>
    obtain⟨b,ws,f',e1,q2,rs2⟩:=Jj hC hF r2
    cases e1
    rw[I.list_inj q2 q]at rs2
    have h:=eqs_cong I hC hF ds es n vs f f' (by simpa [eqOk] using o1) (by simpa [eqOk] using o2) rs rs2
    intro x
    cases x<;>simp only[pyEq]
    exact h _
   | tup es =>
    obtain⟨b,ws,e1,q2,rs2⟩:=Ju hC r2
    cases e1
    exact(ltu I q q2).elim
   | ty _=>simp[eqOk]at o2
   | dct _ _ _=>simp[eqOk]at o2
   | obj _ _ _ _=>simp[eqOk]at o2
   | exc _ _ _=>simp[eqOk]at o2
   | _=>simp[Rep]at r2
 | .tup ds,e,n,v,f1,f2,o1,o2,r1,r2=>by
  obtain⟨a,vs,rfl,q,rs⟩:=Ju hC r1
  cases n with
  | zero=>simp[eqOk]at o1
  | succ n =>
   cases e with
   | tup es =>
    obtain⟨b,ws,e1,q2,rs2⟩:=Ju hC r2
    cases e1
    rw[I.tuple_inj q2 q]at rs2
    have h:=eqs_cong I hC hF ds es n vs f1 f2 (by simpa [eqOk] using o1) (by simpa [eqOk] using o2) rs rs2
    intro x
    cases x<;>simp only[pyEq]
    exact h _
   | lst g es =>
    obtain⟨b,ws,f,e1,q2,rs2⟩:=Jj hC hF r2
    cases e1
    exact(ltu I q2 q).elim
   | ty _=>simp[eqOk]at o2
   | dct _ _ _=>simp[eqOk]at o2
   | obj _ _ _ _=>simp[eqOk]at o2
   | exc _ _ _=>simp[eqOk]at o2
   | _=>simp[Rep]at r2
theorem eqs_cong (I:Inv X pins σ H s) (hC:C.At X) (hF:Fr C H):∀(ds es:List D) (n:Nat) (vs:List V) (f1 f2:List Addr),eqOks n ds=true→eqOks n es=true→Reps C H ds vs f1→Reps C H es vs f2→∀xs,pyEqs ds xs=pyEqs es xs
 | [],es,n,vs,f1,f2,o1,o2,r1,r2=>by
  have:=Je r1
  have h2:=Je r2
  cases es with
  | nil=>exact fun _=>rfl
  | cons e es=>simp at this h2;omega
 | d::ds,[],n,vs,f1,f2,o1,o2,r1,r2=>by
  have:=Je r1
  have h2:=Je r2
  simp at this h2;omega
 | d::ds,e::es,n,vs,f1,f2,o1,o2,⟨v,vs',g1,g2,e1,r1,rs1,_⟩,⟨w,ws',k1,k2,e2,r2,rs2,_⟩=>by
  rw[e1]at e2;cases e2
  simp only[eqOks,Bool.and_eq_true]at o1 o2
  intro xs
  cases xs with
  | nil=>rfl
  | cons x xs=>rw[pyEqs,pyEqs,Jck I hC hF d e n v g1 k1 o1.1 o2.1 r1 r2 x,eqs_cong I hC hF ds es n vs' g2 k2 o1.2 o2.2 rs1 rs2 xs]
end
theorem Zw:∀{ds:List D} {n i:Nat} {d:D},eqOks n ds=true→ds[i]?=some d→eqOk n d=true
 | [],n,i,d,_,h=>by simp at h
 | d0::ds,n,0,d,h,e=>by simp at e;subst e;simp only[eqOks,Bool.and_eq_true]at h;exact h.1
 | d0::ds,n,i+1,d,h,e=>by simp only[eqOks,Bool.and_eq_true]at h;exact Zw h.2 (by simpa using e)
open Classical in
noncomputable def inE (us:List Value) (ds:List D) (x:D) (y:Value):Bool:=decide (∃(j:Nat) (d:D),us[j]?=some y∧ds[j]?=some d∧pyEq d x=true)
theorem Zz {vs:List V} {us:List Value} (r:Vals vs us) {j:Nat} {u:Value} (h:us[j]?=some u):∃v,vs[j]?=some v∧RelV v u:=by
 have hl:=r.length
 have hj:j < vs.length:=by rw[hl];exact(List.getElem?_eq_some_iff.mp h).1
 obtain⟨u',h1,h2⟩:=r.get (i:=j) (x:=vs[j]) (by simp[hj])
 rw[h]at h1;cases h1
 exact⟨vs[j],by simp[hj],h2⟩
theorem Jdf (I:Inv X pins σ H s) (hC:C.At X) (hF:Fr C H) {ds:List D} {x:D} {vs:List V} {us:List Value} {w:V} {xu:Value} {f1 f2:List Addr} {A:Around} (o1:eqOks 40 ds=true) (o2:eqOk 40 x=true) (rs:Reps C H ds vs f1) (rv:Vals vs us)
  (rx:Rep C H x w f2) (rw':RelV w xu) (hu:A.units+41 < cLine):(∀y∈us,EqAt A s y xu (inE us ds x y))∧us.any (inE us ds x)=ds.any (fun d=>pyEq d x):=by
 have hl:=Yg rs rv
 have val:∀(j:Nat) (u:Value) (d:D),us[j]?=some u→ds[j]?=some d→inE us ds x u=pyEq d x:=by
  intro j u d hj hd
  unfold inE
  obtain⟨v,g1,f,g2,hv,r,_⟩:=Zj rs hd
  obtain⟨v2,hv2,rv2⟩:=Zz rv hj
  rw[hv]at hv2;cases hv2
  cases q:pyEq d x with
  | true =>
   classical
   exact decide_eq_true ⟨j,d,hj,hd,q⟩
  | false =>
   classical
   refine decide_eq_false ?_
   rintro ⟨j',d',hj',hd',q'⟩
   obtain⟨v',_,f',_,hv',r',_⟩:=Zj rs hd'
   obtain⟨v3,hv3,rv3⟩:=Zz rv hj'
   rw[hv']at hv3;cases hv3
   have:v'=v:=rv3.inj rv2
   subst this
   rw[Jck I hC hF d' d 40 v' f' f (Zw o1 hd') (Zw o1 hd) r' r x]at q'
   rw[q]at q';cases q'
 refine⟨fun y hy=>?_,?_⟩
 ·obtain⟨j,hj⟩:=List.mem_iff_getElem?.mp hy
  have hjl:j < ds.length:=by rw[hl];exact(List.getElem?_eq_some_iff.mp hj).1
  have hd:ds[j]?=some ds[j]:=by simp[hjl]
  obtain⟨v,g1,f,g2,hv,r,_⟩:=Zj rs hd
  obtain⟨v2,hv2,rv2⟩:=Zz rv hj
  rw[hv]at hv2;cases hv2
  rw[val j y _ hj hd]
  exact(Jcg I hC hF ds[j] x 40 A v w f f2 y xu (Zw o1 hd) o2 r rx rv2 rw' (by omega)).2
 ·rw[Bool.eq_iff_iff,List.any_eq_true,List.any_eq_true]
  constructor
  ·rintro ⟨y,hy,q⟩
   obtain⟨j,hj⟩:=List.mem_iff_getElem?.mp hy
   have hjl:j < ds.length:=by rw[hl];exact(List.getElem?_eq_some_iff.mp hj).1
   have hd:ds[j]?=some ds[j]:=by simp[hjl]
   exact⟨ds[j],List.getElem_mem hjl,by rw[←val j y _ hj hd];exact q⟩
  ·rintro ⟨d,hd,q⟩
   obtain⟨j,hj⟩:=List.mem_iff_getElem?.mp hd
   have hjl:j < us.length:=by rw[←hl];exact(List.getElem?_eq_some_iff.mp hj).1
   have hd':us[j]?=some us[j]:=by simp[hjl]
   exact⟨us[j],List.getElem_mem hjl,by rw[val j _ d hd' hj];exact q⟩
def inB:D→D→Option Bool
 | x,.lst _ ds=>if eqOk 40 x && eqOks 40 ds then some (ds.any fun d=>pyEq d x) else none
 | x,.tup ds=>if eqOk 40 x && eqOks 40 ds then some (ds.any fun d=>pyEq d x) else none
 | x,.dct _ ks ds=>x.key.map fun k=>(Yb ks ds k).isSome
 | .str i,.str j=>some (!(Builtin.Str.occurrences j i 0 j.length 1).isEmpty)
 | _,_=>none
def pIn (x y:D):Option D:=(inB x y).map .bl
theorem od_inG {op:CmpOp} {neg:Bool} {kk:Nat} (hr:Room kk X.A)
  (hlist:∀{s:Shared} {l:Addr} {items:Array Value} {x:Value} {Q:Value→Shared→Prop} (e:Value→Bool),s.heap.IsList l items→(∀y,y∈items→EqAt X.A.in1 s y x (e y))→Q (.bool (if neg then !items.any e else items.any e)) s→wpAny (model X.prog X.w) X.A (compareOp op x (.ref l)) Q X.xe s)
  (htup:∀{s:Shared} {l:Addr} {items:Array Value} {x:Value} {Q:Value→Shared→Prop} (e:Value→Bool),s.heap.IsTuple l items→(∀y,y∈items→EqAt X.A.in1 s y x (e y))→Q (.bool (if neg then !items.any e else items.any e)) s→wpAny (model X.prog X.w) X.A (compareOp op x (.ref l)) Q X.xe s)
  (hdic:∀{pins s σ H a y u o} {Q:Value→Shared→Prop},Inv X pins σ H s→DGet H a y o→RelV y u→(∀s',Inv X pins σ H s'→Q (.bool (if neg then !o.isSome else o.isSome)) s')→wpAny (model X.prog X.w) X.A (compareOp op u (.ref a)) Q X.xe s)
  (hstr:OpR X (compareOp op) (fun x y H Q=>∃i j,x=.str i∧y=.str j∧Q (.bl (if neg then !(!(Builtin.Str.occurrences j i 0 j.length 1).isEmpty) else !(Builtin.Str.occurrences j i 0 j.length 1).isEmpty)) H)) :
  OD2 X (compareOp op) (fun x y=>(inB x y).map fun b=>.bl (if neg then !b else b)):=by
 intro pins s σ H x y v u Q I rx ry ⟨C,dx,dy,fx,fy,d,hC,hF,r1,r2,e,kk⟩
 obtain⟨b,hb,rfl⟩:=Option.map_eq_some_iff.mp e
 have q:=kk.here (v:=.bl (if neg then !b else b)) ⟨rfl,rfl⟩
 have hun:=hr.units
 have hin1:X.A.in1.units+41 < cLine:=by show X.A.units+1+41 < cLine;omega
 cases dy with
 | lst g ds =>
  have hb':(if eqOk 40 dx && eqOks 40 ds then some (ds.any fun d=>pyEq d dx) else none)=some b:=by cases dx<;>exact hb
  split at hb'
  ·rename_i ho
   cases hb'
   have ho:=Bool.and_eq_true_iff.mp ho
   obtain⟨a,vs,f,rfl,qa,rs⟩:=Jj hC hF r2
   cases (show u=Value.ref a from ry)
   obtain⟨its,rv,pl,_⟩:=I.list qa
   obtain⟨h1,h2⟩:=Jdf I hC hF (A:=X.A.in1) ho.2 ho.1 rs rv r1 rx hin1
   refine hlist (inE its ds dx) pl.isList (fun y hy=>h1 y (by simpa using hy)) ⟨.bl _,H,I,?_,q⟩
   rw[List.any_toArray,h2];rfl
  ·cases hb'
 | tup ds =>
  have hb':(if eqOk 40 dx && eqOks 40 ds then some (ds.any fun d=>pyEq d dx) else none)=some b:=by cases dx<;>exact hb
  split at hb'
  ·rename_i ho
   cases hb'
   have ho:=Bool.and_eq_true_iff.mp ho
   obtain⟨a,vs,rfl,qa,rs⟩:=Ju hC r2
   cases (show u=Value.ref a from ry)
   obtain⟨its,rv,pl,_⟩:=I.tuple qa
   obtain⟨h1,h2⟩:=Jdf I hC hF (A:=X.A.in1) ho.2 ho.1 rs rv r1 rx hin1
   refine htup (inE its ds dx) (show s.heap.IsTuple a its.toArray from pl) (fun y hy=>h1 y (by simpa using hy)) ⟨.bl _,H,I,?_,q⟩
   rw[List.any_toArray,h2];rfl
  ·cases hb'
 | dct g ks ds =>
  have hb':(dx.key.map fun k=>(Yb ks ds k).isSome)=some b:=by cases dx<;>exact hb
  obtain⟨ky,hk,rfl⟩:=Option.map_eq_some_iff.mp hb'
  obtain⟨ad,kvs,g1,g2,rfl,hd',hks,rs,ef⟩:=UT hF r2
  cases (show u=Value.ref ad from ry)
  have ex:=ZJ hk r1
  refine hdic I (.inl ⟨kvs,ky,hd',ex,rfl⟩) rx fun s' I'=>⟨.bl _,H,I',?_,q⟩
  have:(valV kvs ky).isSome=(Yb ks ds ky).isSome:=by
   rw[←hks]
   cases z:Yb (kvs.map (·.1)) ds ky with
   | none=>rw[Qs rs z];rfl
   | some w=>obtain⟨v',_,_,_,h1,_⟩:=ZX rs z;rw[h1];rfl
  rw[this];rfl
 | str j =>
  cases dx with
  | str i =>
   obtain⟨rfl,_⟩:=r1
   obtain⟨rfl,_⟩:=r2
   simp only[inB]at hb
   cases hb
   exact hstr pins s σ H _ _ v u Q I rx ry ⟨i,j,rfl,rfl,q⟩
  | _=>simp[inB]at hb
 | _=>cases dx<;>simp[inB]at hb
theorem od_in {kk:Nat} (hr:Room kk X.A):OD2 X (compareOp .In) pIn :=
 od_inG (neg:=false) hr (fun e h1 h2 q=>in_listAt e h1 h2 (by simpa using q)) (fun e h1 h2 q=>in_tupleAt e h1 h2 (by simpa using q)) (fun I g r h=>d_in (by have:=hr.units;omega) I g r (by simpa using h)) (by simpa using op_in_str)
end
end VS
namespace VS
open PySem L2 SeqAt
section
variable {X:Cx} {W:WX} {M M1 M2 M3 Rs R1 R2 R3:List Nat} {e a b c:Expr} {es:List Expr} {ca cb cc:CE} {cs:CA} {pos p:Pos}
variable {pins:List (Addr × Obj)} {σ:St} {H:Hp} {s:Shared} {C:Ctx}
def cL (p:List D→Option D) (cs:CA):CE:=fun env=>(cs env).bind fun ds env=>R.of (p ds) env
theorem JdF {p:List D→Option D} (ha:SA X W M Rs es cs):∃t,PA X es t∧∀C fs env σ H tf Q,C.At X→Good C fs env σ H tf→JY W C M tf fs env σ H Q (cL p cs env)→tCB (rDL X p) t σ H Q:=by
 obtain⟨t,pa,q⟩:=ha.go
 refine⟨t,pa,fun C fs env σ H tf Q hC G po=>?_⟩
 show t σ H fun vs H1=>rDL X p vs H1 Q
 refine q C fs env σ H tf _ hC G ?_
 unfold cL at po
 cases e1:cs env with
 | err=>rw[e1]at po;exact po
 | ex x env'=>rw[e1]at po;exact po
 | ok ds env' =>
  rw[e1]at po
  intro vs fs' H' fp own G' s r i
  have po':JY W C M tf fs env σ H Q (R.of (p ds) env'):=po
  cases e2:p ds with
  | none=>rw[e2]at po';exact po'.elim
  | some z =>
   rw[e2]at po'
   exact⟨C,ds,fp,z,hC,G'.fr,r,e2,Ym G' s po'⟩
theorem JI {id:String} {x:Str} {pf:Pos} {pr:List D→Option D} (hc:ODL X (.builtin id) pr) (hg:Gl X x) (hm:X.mg x=none) (hv:bootBuiltins x=some (.builtin id)) (ha:SA X W M Rs (e::es) cs) (hn:x ≠ "__name__" := by decide) (hdb:(x == ("__debug__" : Str))=false:=by decide)
  (he:starEach (e::es) X.env=(false,eval e X.env)::starEach es X.env:=by rfl) (hpl:(backTo pos (starEach es X.env)).any (·.1)=false:=by rfl):SO X W M (.Call (.Name x pf) (e::es) [] pos) (cL pr cs):=by
 obtain⟨t,pa,q⟩:=JdF (p:=pr) ha
 exact⟨_,pe_callB hc hg hm hv pa hn hdb he hpl,q⟩
theorem YM {T:String} {x:Str} {pf:Pos} {pr:List D→Option D} (hc:ODL X (.type T) pr) (hg:Gl X x) (hm:X.mg x=none) (hv:bootBuiltins x=some (.type T)) (ha:SA X W M Rs (e::es) cs) (hn:x ≠ "__name__" := by decide) (hdb:(x == ("__debug__" : Str))=false:=by decide)
  (he:starEach (e::es) X.env=(false,eval e X.env)::starEach es X.env:=by rfl) (hpl:(backTo pos (starEach es X.env)).any (·.1)=false:=by rfl):SO X W M (.Call (.Name x pf) (e::es) [] pos) (cL pr cs):=by
 obtain⟨t,pa,q⟩:=JdF (p:=pr) ha
 exact⟨_,pe_callTy hc hg hm hv pa hn hdb he hpl,q⟩
theorem YR {d:D} {vs:List V} {fp} (r:Reps C H [d] vs fp):∃v,vs=[v]∧Rep C H d v fp:=by
 obtain⟨v,vs',f1,f2,rfl,r1,⟨rfl,rfl⟩,rfl⟩:=r
 exact⟨v,rfl,by simpa using r1⟩
theorem Jcp {d e:D} {vs:List V} {fp} (r:Reps C H [d,e] vs fp):∃v w f1 f2,vs=[v,w]∧Rep C H d v f1∧Rep C H e w f2∧fp=f1++f2:=by
 obtain⟨v,vs',f1,f2,rfl,r1,r2,rfl⟩:=r
 obtain⟨w,rfl,r3⟩:=YR r2
 exact⟨v,w,f1,f2,rfl,r1,r3,rfl⟩
def pLen:List D→Option D
 | [.lst _ ds]=>some (.int ds.length)
 | [.tup ds]=>some (.int ds.length)
 | [.dct _ ks _]=>some (.int ks.length)
 | [.str s]=>if s.length≤sizeLine then some (.int s.length) else none
 | _=>none
theorem YW:ODL X (.builtin "len") pLen:=by
 intro pins s σ H xs us Q I rv ⟨C,ds,fx,d,hC,hF,rs,e,k⟩
 unfold pLen at e
 split at e
 ·rename_i g zs
  obtain⟨v,rfl,r⟩:=YR rs
  obtain⟨a,vs,f,rfl,q,rz⟩:=Jj hC hF r
  cases e
  refine call_len_seq pins s σ H _ us Q I rv ⟨a,vs,rfl,.inl q,?_⟩
  rw[←Je rz]
  exact k.here ⟨rfl,rfl⟩
 ·rename_i zs
  obtain⟨v,rfl,r⟩:=YR rs
  obtain⟨a,vs,rfl,q,rz⟩:=Ju hC r
  cases e
  refine call_len_seq pins s σ H _ us Q I rv ⟨a,vs,rfl,.inr q,?_⟩
  rw[←Je rz]
  exact k.here ⟨rfl,rfl⟩
 ·rename_i g ks zs
  obtain⟨v,rfl,r⟩:=YR rs
  obtain⟨ad,kvs,g1,g2,rfl,hd,hk,rz,_⟩:=UT hF r
  cases e
  obtain⟨u,rfl,ru⟩:=vals1 rv
  cases (show u=Value.ref ad from ru)
  refine d_len I hd fun t s' I'=>⟨.int kvs.length,H,I',⟨t,rfl⟩,?_⟩
  have:kvs.length=ks.length:=by rw[←hk];simp
  rw[this];exact k.here ⟨rfl,rfl⟩
 ·rename_i z
  obtain⟨v,rfl,r⟩:=YR rs
  obtain⟨rfl,_⟩:=r
  split at e
  ·rename_i hz
   cases e
   exact call_len pins s σ H _ us Q I rv ⟨.str z,z.length,rfl,⟨hz,rfl⟩,k.here ⟨rfl,rfl⟩⟩
  ·cases e
 ·cases e
def JcB:List D→Option D
 | [.int i,.int j]=>some (.int (if j < i then j else i))
 | _=>none
theorem od_min2 (hc:X.calm=true):ODL X (.builtin "min") JcB:=by
 refine ODL.of (call_min2 hc) fun xs H Q ⟨C,ds,fx,d,hC,hF,rs,e,k⟩=>?_
 unfold JcB at e
 split at e
 ·rename_i i j
  obtain⟨v,w,f1,f2,rfl,r,r',_⟩:=Jcp rs
  obtain⟨rfl,_⟩:=r
  obtain⟨rfl,_⟩:=r'
  cases e
  exact⟨i,j,rfl,k.here ⟨rfl,rfl⟩⟩
 ·cases e
def JaT:List D→Option D
 | [.int i]=>some (.int i)
 | [.bl b]=>some (.int (if b then 1 else 0))
 | _=>none
theorem od_int1:ODL X (.type "int") JaT:=by
 refine ODL.of call_int1 fun xs H Q ⟨C,ds,fx,d,hC,hF,rs,e,k⟩=>?_
 unfold JaT at e
 split at e
 ·rename_i i
  obtain⟨v,rfl,r⟩:=YR rs
  obtain⟨rfl,_⟩:=r
  cases e
  exact .inl ⟨i,rfl,k.here ⟨rfl,rfl⟩⟩
 ·rename_i i
  obtain⟨v,rfl,r⟩:=YR rs
  obtain⟨rfl,_⟩:=r
  cases e
  exact .inr ⟨i,rfl,k.here ⟨rfl,rfl⟩⟩
 ·cases e
def Jbq (W:WX) (C:Ctx) (M:List Nat) (tf:List Addr) (fs:FPs) (env:Env) (σ:St) (H:Hp) (Q:List V→Hp→Prop):R (List D)→Prop
 | .ok ds env'=>∀vs fs' H' fp,Good C fs' env' σ H' (fp++tf)→Step M tf fs env H fs' env' H'→Reps C H' ds vs fp→Q vs H'
 | .ex x env'=>∀cv dd fs' H',Good C fs' env' σ H' tf→Step M tf fs env H fs' env' H'→ExIs C x cv dd H'→W cv dd σ H'
 | .err=>False
structure SAO (X:Cx) (W:WX) (M:List Nat) (es:List Expr) (c:CA):Prop where
 go:∃t,PA X es t∧∀C fs env σ H tf Q,C.At X→Good C fs env σ H tf→Jbq W C M tf fs env σ H Q (c env)→t σ H Q
theorem JA:SAO X W [] [] cNil:=by
 refine⟨tNil,pa_nil,fun C fs env σ H tf Q hC G po=>?_⟩
 exact po [] fs H [] (by simpa using G) .refl ⟨rfl,rfl⟩
theorem Good.swap {fs:FPs} {env:Env} {tf f1 f2:List Addr} (G:Good C fs env σ H (f2++(f1++tf))):Good C fs env σ H ((f1++f2)++tf):=by
 have p:(fs.flatten++((f1++f2)++tf)).Perm (fs.flatten++(f2++(f1++tf))):=by
  refine List.Perm.append_left _ ?_
  rw[←List.append_assoc]
  exact List.perm_append_comm.append_right _
 exact⟨G.le,G.lf,G.rep,p.nodup_iff.mpr G.nd,fun a ha=>G.own a (p.mem_iff.mp ha),fun a ha=>G.trk a (p.mem_iff.mp ha),G.fr,G.lk⟩
theorem Jf (ha:SO X W M1 a ca) (hr:SAO X W M2 es cs) (hs:starEach (a::es) X.env=(false,eval a X.env)::starEach es X.env:=by rfl):SAO X W (M1++M2) (a::es) (Jc ca cs):=by
 obtain⟨t,p,q⟩:=ha.go
 obtain⟨t2,p2,q2⟩:=hr.go
 refine⟨tCons t t2,pa_cons p p2 hs,fun C fs env σ H tf Q hC G po=>?_⟩
 refine q C fs env σ H tf _ hC G ?_
 unfold Jc at po
 cases e1:ca env with
 | err=>rw[e1]at po;exact po
 | ex x env' =>
  rw[e1]at po
  exact fun cv dd fs' H' G' s=>po cv dd fs' H' G' (s.weak (fun i hi=>List.mem_append_left _ hi) fun _ z=>z)
 | ok d env1 =>
  rw[e1]at po
  intro v fs1 H1 fp1 G1 s1 r1
  refine q2 C fs1 env1 σ H1 (fp1++tf) _ hC G1 ?_
  have po':Jbq W C (M1++M2) tf fs env σ H Q ((cs env1).bind fun ds env=>.ok (d::ds) env):=po
  cases e2:cs env1 with
  | err=>rw[e2]at po';exact po'
  | ex x env' =>
   rw[e2]at po'
   exact fun cv dd fs' H' G' s=>po' cv dd fs' H' G'.drop (s1.trans (s.weak (fun _ z=>z) fun x hx=>List.mem_append_right _ hx))
  | ok ds env2 =>
   rw[e2]at po'
   intro vs fs2 H2 fp2 G2 s2 r2
   have po2:∀vs fs' H' fp,Good C fs' env2 σ H' (fp++tf)→Step (M1++M2) tf fs env H fs' env2 H'→Reps C H' (d::ds) vs fp→Q vs H':=po'
   exact po2 (v::vs) fs2 H2 (fp1++fp2) G2.swap (s1.trans (s2.weak (fun _ z=>z) fun x hx=>List.mem_append_right _ hx)) ⟨v,vs,fp1,fp2,rfl,r1.keep (fun x hx=>s2.t x (List.mem_append_left _ hx)) s2.m,r2,rfl⟩
def cTup (cs:CA):CE:=fun env=>(cs env).bind fun ds env=>if ds.length≤sizeLine then .ok (.tup ds) env else .err
def cLst (cs:CA):CE:=fun env=>(cs env).bind fun ds env=>if ds.length≤sizeLine then .ok (.lst .m ds) env else .err
theorem Good.new {fs:FPs} {env:Env} {tf:List Addr} {q:Addr} {o:HO} (G:Good C fs env σ H tf) (hq:H q=none) (mu:Mutb o):Good C fs env σ (upd H q o) (q::tf) :=
 G.grow (fp:=[q]) (Le.new hq) (by simp) (fun a ha=>by simp at ha;subst ha;exact hq) fun a ha=>by simp at ha;subst ha;exact⟨o,upd_same,mu⟩
theorem UB {kk} (h:SAO X W M es cs):SO X W M (.Tuple es kk pos) (cTup cs):=by
 obtain⟨t,p,q⟩:=h.go
 refine⟨tTup t,pe_tup p,fun C fs env σ H tf Q hC G po=>q C fs env σ H tf _ hC G ?_⟩
 unfold cTup at po
 cases e1:cs env with
 | err=>rw[e1]at po;exact po
 | ex x env'=>rw[e1]at po;exact po
 | ok ds env' =>
  rw[e1]at po
  intro vs fs' H' fp G' s r
  have po':JY W C M tf fs env σ H Q (if ds.length≤sizeLine then .ok (.tup ds) env' else .err):=po
  by_cases hz:ds.length≤sizeLine
  ·rw[if_pos hz]at po'
   refine⟨by rw[←Je r];exact hz,fun q hq=>?_⟩
   have le:=Le.new (o:=.tup vs) hq
   refine po' (.ref q) fs' _ fp (G'.le' le) ?_ ⟨q,vs,rfl,SqT.of upd_same,r.le le⟩
   have:=s.trans (Step.grow (M:=[]) G'.drop le)
   simpa using this
  ·rw[if_neg hz]at po';exact po'.elim
theorem Zm (h:SAO X W M es cs):SO X W M (.List es pos) (cLst cs):=by
 obtain⟨t,p,q⟩:=h.go
 refine⟨tLst t,pe_lst p,fun C fs env σ H tf Q hC G po=>q C fs env σ H tf _ hC G ?_⟩
 unfold cLst at po
 cases e1:cs env with
 | err=>rw[e1]at po;exact po
 | ex x env'=>rw[e1]at po;exact po
 | ok ds env' =>
  rw[e1]at po
  intro vs fs' H' fp G' s r
  have po':JY W C M tf fs env σ H Q (if ds.length≤sizeLine then .ok (.lst .m ds) env' else .err):=po
  by_cases hz:ds.length≤sizeLine
  ·rw[if_pos hz]at po'
   refine⟨by rw[←Je r];exact hz,fun q hq=>?_⟩
   have le:=Le.new (o:=.lst vs) hq
   refine po' (.ref q) fs' _ (q::fp) (G'.new hq trivial) ?_ ⟨q,vs,[q],fp,rfl,⟨upd_same,rfl⟩,r.le le,.inl rfl,rfl⟩
   have:=s.trans (Step.grow (M:=[]) G'.drop le)
   simpa using this
  ·rw[if_neg hz]at po';exact po'.elim
end
end VS
namespace VS
open PySem L2 SeqAt
inductive O where
 | nx (e:Env)
 | rt (d:D) (e:Env)
 | bk (e:Env)
 | ct (e:Env)
 | ex (x:Exn) (e:Env)
 | err
abbrev CS:=Env→O
structure StepS (M Vs:List Nat) (tf:List Addr) (fs:FPs) (env:Env) (σ:St) (H:Hp) (fs':FPs) (env':Env) (σ':St) (H':Hp):Prop where
 s:Step M tf fs env H fs' env' H'
 v:∀i,i∉Vs→σ'[i]?=σ[i]?
theorem StepS.refl {M Vs tf fs env σ H}:StepS M Vs tf fs env σ H fs env σ H:=⟨.refl,fun _ _=>rfl⟩
theorem StepS.trans {M1 M2 V1 V2 tf fs env σ H fs1 env1 σ1 H1 fs2 env2 σ2 H2} (a:StepS M1 V1 tf fs env σ H fs1 env1 σ1 H1) (b:StepS M2 V2 tf fs1 env1 σ1 H1 fs2 env2 σ2 H2):StepS (M1++M2) (V1++V2) tf fs env σ H fs2 env2 σ2 H2 :=
 ⟨a.s.trans b.s,fun i hi=>by
  rw[List.mem_append,not_or]at hi
  exact(b.v i hi.2).trans (a.v i hi.1)⟩
theorem StepS.weak {M M' Vs Vs' tf tf' fs env σ H fs1 env1 σ1 H1} (a:StepS M Vs tf fs env σ H fs1 env1 σ1 H1) (h:∀i∈M,i∈M') (hv:∀i∈Vs,i∈Vs') (ht:∀x∈tf',x∈tf):StepS M' Vs' tf' fs env σ H fs1 env1 σ1 H1 :=
 ⟨a.s.weak h ht,fun i hi=>a.v i fun z=>hi (hv i z)⟩
theorem Step.ss {M tf fs env H fs' env' H'} {σ:St} (a:Step M tf fs env H fs' env' H'):StepS M [] tf fs env σ H fs' env' σ H':=⟨a,fun _ _=>rfl⟩
section
variable (W:WX) (C:Ctx)
def YL (M Vs:List Nat) (tf:List Addr) (fs:FPs) (env:Env) (σ:St) (H:Hp) (E:Ends):O→Prop
 | .nx env'=>∀fs' σ' H',Good C fs' env' σ' H' tf→StepS M Vs tf fs env σ H fs' env' σ' H'→E.nx σ' H'
 | .rt d env'=>∀v fs' σ' H' fp,Good C fs' env' σ' H' (fp++tf)→StepS M Vs tf fs env σ H fs' env' σ' H'→Rep C H' d v fp→E.rt v H'
 | .bk env'=>∀fs' σ' H',Good C fs' env' σ' H' tf→StepS M Vs tf fs env σ H fs' env' σ' H'→E.bk σ' H'
 | .ct env'=>∀fs' σ' H',Good C fs' env' σ' H' tf→StepS M Vs tf fs env σ H fs' env' σ' H'→E.ct σ' H'
 | .ex x env'=>∀cv dd fs' σ' H',Good C fs' env' σ' H' tf→StepS M Vs tf fs env σ H fs' env' σ' H'→ExIs C x cv dd H'→W cv dd σ' H'
 | .err=>False
def Qi (M Vs:List Nat) (tf:List Addr) (fs:FPs) (env:Env) (σ:St) (H:Hp) (Q:St→Hp→Prop):Option Env→Prop
 | some env'=>∀fs' σ' H',Good C fs' env' σ' H' tf→StepS M Vs tf fs env σ H fs' env' σ' H'→Q σ' H'
 | none=>False
end
structure SS (X:Cx) (W:WX) (M Vs:List Nat) (st:Stmt) (c:CS):Prop where
 go:∃t,PS X st t∧∀C fs env σ H tf E,C.At X→Good C fs env σ H tf→YL W C M Vs tf fs env σ H E (c env)→t E σ H
structure SSs (X:Cx) (W:WX) (M Vs:List Nat) (sts:List Stmt) (c:CS):Prop where
 go:∃t,PSs X sts t∧∀C fs env σ H tf E,C.At X→Good C fs env σ H tf→YL W C M Vs tf fs env σ H E (c env)→t E σ H
structure SG (X:Cx) (M Vs:List Nat) (tg:Expr) (g:D→Env→Option Env):Prop where
 go:∃t,PG X tg t∧∀C fs env σ H tf Q d v fp,C.At X→Good C fs env σ H (fp++tf)→Rep C H d v fp→Qi C M Vs tf fs env σ H Q (g d env)→t v σ H Q
structure SGs (X:Cx) (M Vs:List Nat) (tgs:List Expr) (g:List D→Env→Option Env):Prop where
 go:∃t,PGs X tgs t∧∀C fs env σ H tf Q ds vs fp,C.At X→Good C fs env σ H (fp++tf)→Reps C H ds vs fp→Qi C M Vs tf fs env σ H Q (g ds env)→t vs σ H Q
section
variable {C:Ctx} {H H':Hp} {fs fs':FPs} {env env':Env} {σ σ':St} {tf fp own:List Addr} {M Rs:List Nat}
theorem Good.put {i:Nat} {d:D} {v:V} (G:Good C fs env σ H (fp++tf)) (r:Rep C H d v fp):Good C (fs.set i fp) (env.set i (some d)) (σ.set i (some v)) H tf:=by
 by_cases hi:i < σ.length
 case neg =>
  have h1:=G.le
  have h2:=G.lf
  rw[List.set_eq_of_length_le (by omega),List.set_eq_of_length_le (by omega),List.set_eq_of_length_le (by omega)]
  exact G.drop
 have hl:i < fs.length:=by rw[G.lf];exact hi
 have p1:=Qa fs hl fp
 have p2:=Yy fs hl
 have sub:∀a∈(fs.set i fp).flatten++tf,a∈fs.flatten++(fp++tf):=fun a ha=>by
  rcases List.mem_append.mp ha with z | z
  ·rcases List.mem_append.mp (p1.mem_iff.mp z) with z | z
   ·simp[z]
   ·have:=p2.mem_iff.mpr (List.mem_append_right _ z)
    simp[this]
  ·simp[z]
 refine⟨by simpa using G.le,by simpa using G.lf,fun j d' e=>?_,?_,fun a ha=>G.own a (sub a ha),fun a ha=>G.trk a (sub a ha),G.fr,G.lk⟩
 ·rw[List.getElem?_set]at e
  by_cases hj:i=j
  ·subst hj
   have hle:i < env.length:=by rw[G.le];exact hi
   simp[hle]at e;subst e
   refine⟨v,by simp[hi],?_⟩
   rw[JE fs i i fp hl,if_pos rfl];exact r
  ·rw[if_neg hj]at e
   obtain⟨w,e1,r1⟩:=G.rep j d' e
   refine⟨w,by rw[List.getElem?_set_ne hj];exact e1,?_⟩
   rw[JE fs i j fp hl,if_neg (Ne.symm hj)];exact r1
 ·have nd:=G.nd
  have q:(fs.flatten++(fp++tf)).Perm (fs.getD i []++((fp++(fs.set i []).flatten)++tf)):=by
   refine (p2.append_right _).trans ?_
   rw[List.append_assoc]
   refine List.Perm.append_left _ ?_
   rw[←List.append_assoc]
   exact List.perm_append_comm.append_right _
  have nd2:=(List.nodup_append.mp (q.nodup_iff.mp nd)).2.1
  exact(p1.append_right tf).nodup_iff.mpr nd2
theorem Step.put {i:Nat} {d:D} (G:Good C fs env σ H (fp++tf)):Step [i] tf fs env H (fs.set i fp) (env.set i (some d)) H:=by
 refine⟨fun _ _=>rfl,fun j hj=>?_,fun j hj=>?_,fun _ _ _ _=>rfl,.refl H⟩
 ·rw[List.getD_eq_getElem?_getD,List.getElem?_set_ne (by intro z;subst z;simp at hj),List.getD_eq_getElem?_getD]
 ·rw[List.getElem?_set,if_neg (by intro z;subst z;simp at hj)]
theorem StepS.put {i:Nat} {d:D} {v:V} (G:Good C fs env σ H (fp++tf)):StepS [i] [i] tf fs env σ H (fs.set i fp) (env.set i (some d)) (σ.set i (some v)) H :=
 ⟨Step.put G,fun j hj=>by rw[List.getElem?_set,if_neg (by intro z;subst z;simp at hj)]⟩
end
section
variable {X:Cx} {W:WX} {M M1 M2 M3 V1 V2 V3 Rs R1 R2 R3:List Nat} {e a b c:Expr} {es:List Expr} {ca cb cc:CE} {cs:CA} {ct:CT} {pos p:Pos} {st:Stmt} {sts:List Stmt} {c1 c2' c3:CS}
variable {pins:List (Addr × Obj)} {σ:St} {H:Hp} {s:Shared} {C:Ctx}
def sNil:CS:=fun env=>.nx env
def O.bind (o:O) (f:CS):O:=match o with
 | .nx e=>f e
 | o=>o
def sSeq (c1 c2:CS):CS:=fun env=>(c1 env).bind c2
theorem Ys:SSs X W [] [] [] sNil:=⟨tNext,pss_nil,fun C fs env σ H tf E hC G po=>po fs σ H G .refl⟩
theorem YL.weak {tf fs env σ H E} {z:O} (h:∀i∈M1,i∈M2) (hv:∀i∈V1,i∈V2) (po:YL W C M2 V2 tf fs env σ H E z):YL W C M1 V1 tf fs env σ H E z:=by
 cases z with
 | nx env'=>exact fun fs' σ' H' G s=>po fs' σ' H' G (s.weak h hv fun _ z=>z)
 | rt d env'=>exact fun v fs' σ' H' fp G s r=>po v fs' σ' H' fp G (s.weak h hv fun _ z=>z) r
 | bk env'=>exact fun fs' σ' H' G s=>po fs' σ' H' G (s.weak h hv fun _ z=>z)
 | ct env'=>exact fun fs' σ' H' G s=>po fs' σ' H' G (s.weak h hv fun _ z=>z)
 | ex x env'=>exact fun cv dd fs' σ' H' G s=>po cv dd fs' σ' H' G (s.weak h hv fun _ z=>z)
 | err=>exact po
theorem YL.step {tf fs env σ H E fs1 env1 σ1 H1} {z:O} (s1:StepS M1 V1 tf fs env σ H fs1 env1 σ1 H1) (po:YL W C (M1++M2) (V1++V2) tf fs env σ H E z):YL W C M2 V2 tf fs1 env1 σ1 H1 E z:=by
 cases z with
 | nx env'=>exact fun fs' σ' H' G s=>po fs' σ' H' G (s1.trans s)
 | rt d env'=>exact fun v fs' σ' H' fp G s r=>po v fs' σ' H' fp G (s1.trans s) r
 | bk env'=>exact fun fs' σ' H' G s=>po fs' σ' H' G (s1.trans s)
 | ct env'=>exact fun fs' σ' H' G s=>po fs' σ' H' G (s1.trans s)
 | ex x env'=>exact fun cv dd fs' σ' H' G s=>po cv dd fs' σ' H' G (s1.trans s)
 | err=>exact po
theorem JX {M1 M2:List Nat}:∀i∈M1,i∈M1++M2:=fun _ h=>List.mem_append_left _ h
theorem QI {M1 M2:List Nat}:∀i∈M2,i∈M1++M2:=fun _ h=>List.mem_append_right _ h
theorem post_seq {tf fs env σ H E} {f:CS} {z:O} (po:YL W C (M1++M2) (V1++V2) tf fs env σ H E (z.bind f)) {K:Ends} (hr:K.rt=E.rt) (hb:K.bk=E.bk) (hc:K.ct=E.ct)
  (hn:∀env1,z=.nx env1→∀fs1 σ1 H1,Good C fs1 env1 σ1 H1 tf→StepS M1 V1 tf fs env σ H fs1 env1 σ1 H1→YL W C M2 V2 tf fs1 env1 σ1 H1 E (f env1)→K.nx σ1 H1):YL W C M1 V1 tf fs env σ H K z:=by
 cases z with
 | nx env1=>exact fun fs1 σ1 H1 G1 s1=>hn env1 rfl fs1 σ1 H1 G1 s1 (YL.step s1 po)
 | rt d env'=>show ∀v fs' σ' H' fp,_→_→_→K.rt v H';rw[hr];exact YL.weak JX JX (z:=.rt d env') po
 | bk env'=>show ∀fs' σ' H',_→_→K.bk σ' H';rw[hb];exact YL.weak JX JX (z:=.bk env') po
 | ct env'=>show ∀fs' σ' H',_→_→K.ct σ' H';rw[hc];exact YL.weak JX JX (z:=.ct env') po
 | ex x env'=>exact YL.weak JX JX (z:=.ex x env') po
 | err=>exact po
theorem Jd (h1:SS X W M1 V1 st c1) (h2:SSs X W M2 V2 sts c2'):SSs X W (M1++M2) (V1++V2) (st::sts) (sSeq c1 c2'):=by
 obtain⟨t,p,q⟩:=h1.go
 obtain⟨t2,p2,q2⟩:=h2.go
 refine⟨tSeq t t2,pss_cons p p2,fun C fs env σ H tf E hC G po=>?_⟩
 refine q C fs env σ H tf _ hC G ?_
 exact post_seq (f:=c2') po rfl rfl rfl fun env1 _ fs1 σ1 H1 G1 s1 po1=>q2 C fs1 env1 σ1 H1 tf E hC G1 po1
theorem Jv (h1:SS X W M1 V1 st c1):SSs X W M1 V1 [st] c1:=by
 obtain⟨t,p,q⟩:=h1.go
 exact⟨t,pss_one p,q⟩
theorem Good.kill {fs env tf} (G:Good C fs env σ H tf) (i:Nat):Good C (fs.set i []) (env.set i none) σ H tf:=by
 refine⟨by simpa using G.le,by simpa using G.lf,fun j d' e=>?_,?_,fun a ha=>G.own a ?_,fun a ha=>G.trk a ?_,G.fr,G.lk⟩
 ·rw[List.getElem?_set]at e
  by_cases hj:i=j
  ·subst hj;simp at e
  ·rw[if_neg hj]at e
   obtain⟨v,e1,r⟩:=G.rep j d' e
   refine⟨v,e1,?_⟩
   have:(fs.set i []).getD j []=fs.getD j []:=by
    rw[List.getD_eq_getElem?_getD,List.getElem?_set_ne hj,List.getD_eq_getElem?_getD]
   rw[this];exact r
 ·by_cases hi:i < fs.length
  ·have q:=(Yy fs hi).append_right tf
   have:=q.nodup_iff.mp G.nd
   rw[List.append_assoc]at this
   exact(List.nodup_append.mp this).2.1
  ·rw[List.set_eq_of_length_le (by omega)];exact G.nd
 all_goals
  rcases List.mem_append.mp ha with z | z
  ·by_cases hi:i < fs.length
   ·exact List.mem_append_left _ ((Yy fs hi).mem_iff.mpr (List.mem_append_right _ z))
   ·rw[List.set_eq_of_length_le (by omega)]at z;exact List.mem_append_left _ z
  ·exact List.mem_append_right _ z
theorem Step.kill {fs:FPs} {env:Env} {tf} (i:Nat):Step [i] tf fs env H (fs.set i []) (env.set i none) H:=by
 refine⟨fun _ _=>rfl,fun j hj=>?_,fun j hj=>?_,fun _ _ _ _=>rfl,.refl H⟩
 ·have hj':i≠j:=fun z=>by subst z;simp at hj
  rw[List.getD_eq_getElem?_getD,List.getElem?_set_ne hj',List.getD_eq_getElem?_getD]
 ·rw[List.getElem?_set,if_neg (by intro z;subst z;simp at hj)]
def YN (c:CE):CS:=fun env=>match c env with
 | .ok _ env=>.nx env
 | .ex x env=>.ex x env
 | .err=>.err
theorem Ut (h:SB X W M Rs e ca) (hs:swapsWith e none pos.line X.env=pure false:=by rfl):SS X W M [] (.Expr e pos) (YN ca):=by
 obtain⟨t,p,q⟩:=h.go
 refine⟨tDrop t,ps_expr p hs,fun C fs env σ H tf E hC G po=>q C fs env σ H tf _ hC G ?_⟩
 unfold YN at po
 cases e1:ca env with
 | err=>rw[e1]at po;exact po
 | ex x env'=>rw[e1]at po;exact fun cv dd fs' H' G' s=>po cv dd fs' σ H' G' s.ss
 | ok d env'=>rw[e1]at po;exact fun v fs' H' fp own G' s r i=>po fs' σ H' G'.drop s.ss
def sRet (c:CE):CS:=fun env=>match c env with
 | .ok d env=>.rt d env
 | .ex x env=>.ex x env
 | .err=>.err
theorem Yl (h:SO X W M e ca):SS X W M [] (.Return (some e) pos) (sRet ca):=by
 obtain⟨t,p,q⟩:=h.go
 refine⟨tRet t,ps_ret p,fun C fs env σ H tf E hC G po=>q C fs env σ H tf _ hC G ?_⟩
 unfold sRet at po
 cases e1:ca env with
 | err=>rw[e1]at po;exact po
 | ex x env'=>rw[e1]at po;exact fun cv dd fs' H' G' s=>po cv dd fs' σ H' G' s.ss
 | ok d env'=>rw[e1]at po;exact fun v fs' H' fp G' s r=>po v fs' σ H' fp G' s.ss r
def sIf (ct:CT) (c1 c2:CS):CS:=fun env=>match ct env with
 | .ok k env=>if k=true then c1 env else c2 env
 | .ex x env=>.ex x env
 | .err=>.err
theorem YU {sa sb:List Stmt} (hc:ST X W M1 c ct) (ha:SSs X W M2 V2 sa c1) (hb:SSs X W M3 V3 sb c2'):SS X W (M1++(M2++M3)) (V2++V3) (.If c sa sb pos) (sIf ct c1 c2'):=by
 obtain⟨t,p,q⟩:=hc.go
 obtain⟨t2,p2,q2⟩:=ha.go
 obtain⟨t3,p3,q3⟩:=hb.go
 refine⟨tIfS t t2 t3,ps_if p p2 p3,fun C fs env σ H tf E hC G po=>q C fs env σ H tf _ hC G ?_⟩
 unfold sIf at po
 cases e1:ct env with
 | err=>rw[e1]at po;exact po
 | ex x env'=>rw[e1]at po;exact fun cv dd fs' H' G' s=>po cv dd fs' σ H' G' (s.ss.weak JX (fun _ z=>nomatch z) fun _ z=>z)
 | ok k env1 =>
  rw[e1]at po
  intro fs1 H1 G1 s1
  have po1:YL W C (M1++(M2++M3)) ([]++(V2++V3)) tf fs env σ H E (if k=true then c1 env1 else c2' env1):=po
  have po2:=YL.step s1.ss po1
  cases k with
  | true=>exact q2 C fs1 env1 σ H1 tf E hC G1 (YL.weak JX JX po2)
  | false=>exact q3 C fs1 env1 σ H1 tf E hC G1 (YL.weak QI QI po2)
def gSet (i:Nat):D→Env→Option Env:=fun d env=>some (env.set i (some d))
theorem Jt (i:Nat) {x:Str} (hN:X.N.Nodup) (hi:X.N[i]?=some x:=by rfl) (hx:Loc X.env.scope x:=by first | exact .inl rfl | exact .inr rfl) (hf:X.fn x=true∨X.env.scope.names.lookup x=some .local:=by first | exact .inl rfl | exact .inr rfl | assumption):SG X [i] [i] (.Name x pos) (gSet i) :=
 ⟨gName i,pg_name hN hi hx hf,fun C fs env σ H tf Q d v fp hC G r po=>po _ _ _ (G.put r) (StepS.put G)⟩
def Yx:List D→Env→Option Env
 | [],env=>some env
 | _,_=>none
def Ji (g:D→Env→Option Env) (gs:List D→Env→Option Env):List D→Env→Option Env
 | d::ds,env=>(g d env).bind fun env=>gs ds env
 | _,_=>none
theorem Ua:SGs X [] [] [] Yx:=by
 refine⟨gNil,pgs_nil,fun C fs env σ H tf Q ds vs fp hC G r po=>?_⟩
 cases ds with
 | nil=>obtain⟨rfl,rfl⟩:=r;exact⟨rfl,po fs σ H G.drop .refl⟩
 | cons d ds=>exact po.elim
theorem Jw {t:Expr} {ts:List Expr} {g:D→Env→Option Env} {gs:List D→Env→Option Env} (h1:SG X M1 V1 t g) (h2:SGs X M2 V2 ts gs)
  (hs:(assignEach (t::ts) X.env).map (·.2)=assign t X.env::(assignEach ts X.env).map (·.2):=by rfl):SGs X (M1++M2) (V1++V2) (t::ts) (Ji g gs):=by
 obtain⟨t1,p1,q1⟩:=h1.go
 obtain⟨t2,p2,q2⟩:=h2.go
 refine⟨gCons t1 t2,pgs_cons p1 p2 hs,fun C fs env σ H tf Q ds vs fp hC G r po=>?_⟩
 cases ds with
 | nil=>exact po.elim
 | cons d ds =>
  obtain⟨v,vs',f1,f2,rfl,r1,r2,rfl⟩:=r
  refine⟨v,vs',rfl,?_⟩
  have po':Qi C (M1++M2) (V1++V2) tf fs env σ H Q ((g d env).bind fun env=>gs ds env):=po
  refine q1 C fs env σ H (f2++tf) _ d v f1 hC (by rw[←List.append_assoc];exact G) r1 ?_
  cases e1:g d env with
  | none=>rw[e1]at po';exact po'.elim
  | some env1 =>
   rw[e1]at po'
   intro fs1 σ1 H1 G1 s1
   refine q2 C fs1 env1 σ1 H1 tf Q ds vs' f2 hC G1 (r2.keep (fun a ha=>s1.s.t a (List.mem_append_left _ ha)) s1.s.m) ?_
   have po2:Qi C (M1++M2) (V1++V2) tf fs env σ H Q (gs ds env1):=po'
   have w1:=s1.weak (fun _ z=>z) (fun _ z=>z) (tf':=tf) fun x hx=>List.mem_append_right _ hx
   cases e2:gs ds env1 with
   | none=>rw[e2]at po2;exact po2.elim
   | some env2 =>
    rw[e2]at po2
    exact fun fs2 σ2 H2 G2 s2=>po2 fs2 σ2 H2 G2 (w1.trans s2)
def Yt (n:Nat) (gs:List D→Env→Option Env):D→Env→Option Env
 | .tup ds,env=>if ds.length=n then gs ds env else none
 | _,_=>none
theorem Uy {ts:List Expr} {k:Nat} {gs:List D→Env→Option Env} (hc:X.calm=true) (h:SGs X M V1 ts gs) (hst:(assignEach ts X.env).findIdx? (·.1)=none:=by rfl) :
  SG X M V1 (.Tuple ts k pos) (Yt (assignEach ts X.env).length gs):=by
 obtain⟨t,p,q⟩:=h.go
 refine⟨gTup X.K (assignEach ts X.env).length t,pg_tup hc p rfl hst,fun C fs env σ H tf Q d v fp hC G r po=>?_⟩
 cases d with
 | tup ds =>
  obtain⟨a,vs,rfl,hq,rs⟩:=Ju hC r
  have po':Qi C M V1 tf fs env σ H Q (if ds.length=(assignEach ts X.env).length then gs ds env else none):=po
  by_cases hl:ds.length=(assignEach ts X.env).length
  ·rw[if_pos hl]at po'
   exact⟨a,vs,rfl,hq,by rw[←Je rs];exact hl,q C fs env σ H tf Q ds vs fp hC G rs po'⟩
  ·rw[if_neg hl]at po';exact po'.elim
 | _=>exact po.elim
def sAsg (c:CE) (g:D→Env→Option Env):CS:=fun env=>match c env with
 | .ok d env=>match g d env with
  | some env=>.nx env
  | none=>.err
 | .ex x env=>.ex x env
 | .err=>.err
theorem Jce {t:TE} {g:TG} {gd:D→Env→Option Env} {tf fs env E} (hC:C.At X) (G:Good C fs env σ H tf)
  (q:∀C fs env σ H tf Q,C.At X→Good C fs env σ H tf→JY W C M1 tf fs env σ H Q (ca env)→t σ H Q)
  (qg:∀C fs env σ H tf Q d v fp,C.At X→Good C fs env σ H (fp++tf)→Rep C H d v fp→Qi C M2 V2 tf fs env σ H Q (gd d env)→g v σ H Q)
  (po:YL W C (M1++M2) V2 tf fs env σ H E (sAsg ca gd env)):t σ H fun x H1=>g x σ H1 E.nx:=by
 refine q C fs env σ H tf _ hC G ?_
 unfold sAsg at po
 cases e1:ca env with
 | err=>rw[e1]at po;exact po
 | ex x env'=>rw[e1]at po;exact fun cv dd fs' H' G' s=>po cv dd fs' σ H' G' (s.ss.weak JX (fun _ z=>nomatch z) fun _ z=>z)
 | ok d env1 =>
  rw[e1]at po
  intro v fs1 H1 fp G1 s1 r1
  refine qg C fs1 env1 σ H1 tf _ d v fp hC G1 r1 ?_
  have po':YL W C (M1++M2) V2 tf fs env σ H E (match gd d env1 with
   | some env=>.nx env
   | none=>.err):=po
  cases e2:gd d env1 with
  | none=>rw[e2]at po';exact po'
  | some env2 =>
   rw[e2]at po'
   exact fun fs2 σ2 H2 G2 s2=>po' fs2 σ2 H2 G2 (s1.ss.trans s2)
theorem ss_set (i:Nat) {x:Str} {pos':Pos} (hN:X.N.Nodup) (h:SO X W M e ca) (hi:X.N[i]?=some x:=by rfl) (hx:Loc X.env.scope x:=by first | exact .inl rfl | exact .inr rfl) (hs:swapsWith e (some (.Name x pos')) pos.line X.env=pure false:=by rfl) (hf:X.fn x=true∨X.env.scope.names.lookup x=some .local:=by first | exact .inl rfl | exact .inr rfl | assumption) :
  SS X W (M++[i]) [i] (.Assign [.Name x pos'] e pos) (sAsg ca (gSet i)):=by
 obtain⟨t,p,q⟩:=h.go
 refine⟨tAsg t (gName i),ps_set hN hi hx p hs hf,fun C fs env σ H tf E hC G po=>?_⟩
 exact Jce (gd:=gSet i) (M2:=[i]) (V2:=[i]) hC G q (fun C fs env σ H tf Q d v fp hC G r po=>po _ _ _ (G.put r) (StepS.put G)) po
theorem UA {tg:Expr} {g:D→Env→Option Env} (h:SO X W M e ca) (hg:SG X M2 V2 tg g) (hs:swapsWithSole [tg] e pos.line X.env=pure false:=by rfl) (hw:swappedStores [tg] e X.env=pure none:=by rfl)
  (h1:(assignEach [tg] X.env).map (·.2)=[assign tg X.env]:=by rfl):SS X W (M++M2) V2 (.Assign [tg] e pos) (sAsg ca g):=by
 obtain⟨t,p,q⟩:=h.go
 obtain⟨t2,p2,q2⟩:=hg.go
 refine⟨tAsg t t2,ps_asg p p2 hs hw h1,fun C fs env σ H tf E hC G po=>?_⟩
 exact Jce (gd:=g) (M2:=M2) (V2:=V2) hC G q q2 po
def sPar (i j:Nat) (cs:CA):CS:=fun env=>match cs env with
 | .ok [d,e] env=>.nx ((env.set i (some d)).set j (some e))
 | .ok _ _=>.err
 | .ex x env=>.ex x env
 | .err=>.err
theorem ss_par (i j:Nat) {x y:Str} {px py pt:Pos} {kt k2 pt2} (hc:X.calm=true) (hN:X.N.Nodup) (ha:SAO X W M [a,b] cs) (hi:X.N[i]?=some x:=by rfl) (hj:X.N[j]?=some y:=by rfl) (hij:i≠j:=by decide)
  (hx:X.env.scope.names.lookup x=some .local:=by rfl) (hy:X.env.scope.names.lookup y=some .local:=by rfl)
  (hw:swappedStores [.Tuple [.Name x px,.Name y py] kt pt] (.Tuple [a,b] k2 pt2) X.env=pure (some [x,y]):=by rfl)
  (hs:swapsWithSole [.Tuple [.Name x px,.Name y py] kt pt] (.Tuple [a,b] k2 pt2) pos.line X.env=pure false:=by rfl) :
  SS X W (M++([i]++[j])) ([i]++[j]) (.Assign [.Tuple [.Name x px,.Name y py] kt pt] (.Tuple [a,b] k2 pt2) pos) (sPar i j cs):=by
 obtain⟨t,p,q⟩:=ha.go
 refine⟨tPar i j t,ps_par hc hN hi hj hij hx hy p hw hs,fun C fs env σ H tf E hC G po=>q C fs env σ H tf _ hC G ?_⟩
 unfold sPar at po
 cases e1:cs env with
 | err=>rw[e1]at po;exact po
 | ex x env'=>rw[e1]at po;exact fun cv dd fs' H' G' s=>po cv dd fs' σ H' G' (s.ss.weak JX (fun _ z=>nomatch z) fun _ z=>z)
 | ok ds env1 =>
  rw[e1]at po
  intro vs fs1 H1 fp G1 s1 r1
  match ds,r1,po with
  | [],_,po=>exact po.elim
  | [_],_,po=>exact po.elim
  | _::_::_::_,_,po=>exact po.elim
  | [d,d2],r1,po =>
   obtain⟨v,w,f1,f2,rfl,ra,r2,rfl⟩:=Jcp r1
   refine⟨v,w,rfl,?_⟩
   have G1':Good C fs1 env1 σ H1 (f1++(f2++tf)):=by rw[←List.append_assoc];exact G1
   have Ga:=G1'.put (i:=i) ra
   have Gb:=Ga.put (i:=j) r2
   have sa:=StepS.put (i:=i) (d:=d) (v:=v) G1'
   have sb:=StepS.put (i:=j) (d:=d2) (v:=w) Ga
   refine po _ _ _ Gb ?_
   exact s1.ss.trans ((sa.weak (fun _ z=>z) (fun _ z=>z) fun x hx=>List.mem_append_right _ hx).trans sb)
end
end VS
namespace VS
open PySem L2 SeqAt
structure SrcOk (C:Ctx) (J:It) (ds:List D) (fp:List Addr) (H1:Hp):Prop where
 walk:Walk J ds.length (fun H=>Fr C H∧Mono H1 H∧∀a∈fp,H a=H1 a) (fun i H x H'=>Le H H'∧∃d,ds[i]?=some d∧Rep C H' d x [])
def QP (W:WX) (C:Ctx) (M Rs:List Nat) (tf:List Addr) (fs:FPs) (env:Env) (σ:St) (H:Hp) (Q:It→Hp→Prop):R (List D)→Prop
 | .ok ds env'=>∀J fs' H' fp own,Good C fs' env' σ H' (own++tf)→Step M tf fs env H fs' env' H'→SrcOk C J ds fp H'→In Rs own fs' fp→Q J H'
 | .ex x env'=>∀cv dd fs' H',Good C fs' env' σ H' tf→Step M tf fs env H fs' env' H'→ExIs C x cv dd H'→W cv dd σ H'
 | .err=>False
structure SI (X:Cx) (W:WX) (M Rs:List Nat) (tg e:Expr) (c:CA):Prop where
 go:∃t,PI X tg e t∧∀C fs env σ H tf Q,C.At X→Good C fs env σ H tf→QP W C M Rs tf fs env σ H Q (c env)→t σ H Q
def YF (g:D→Env→Option Env) (body:CS):List D→Env→O
 | [],env=>.nx env
 | d::ds,env=>match g d env with
  | none=>.err
  | some env1=>match body env1 with
   | .nx env2=>YF g body ds env2
   | .ct env2=>YF g body ds env2
   | .bk env2=>.nx env2
   | o=>o
def sFor (src:CA) (g:D→Env→Option Env) (body:CS):CS:=fun env=>match src env with
 | .ok ds env=>YF g body ds env
 | .ex x env=>.ex x env
 | .err=>.err
def Uh (ct:CT) (body:CS):Nat→Env→O
 | 0,_=>.err
 | n+1,env=>match ct env with
  | .ok true env1=>match body env1 with
   | .nx env2=>Uh ct body n env2
   | .ct env2=>Uh ct body n env2
   | .bk env2=>.nx env2
   | o=>o
  | .ok false env1=>.nx env1
  | .ex x env=>.ex x env
  | .err=>.err
def Jbv (μ:Env→Nat) (ct:CT) (body:CS):CS:=fun env=>Uh ct body (μ env) env
section
variable {X:Cx} {W:WX} {M M1 M2 M3 V1 V2 V3 Rs R1 R2 R3:List Nat} {e a b c tg:Expr} {es:List Expr} {ca cb cc:CE} {cs src:CA} {ct:CT} {pos p:Pos} {st:Stmt} {sts body:List Stmt} {c1 c2' c3 cb':CS} {g:D→Env→Option Env}
variable {pins:List (Addr × Obj)} {σ:St} {H:Hp} {s:Shared} {C:Ctx}
theorem ZH (hp:PassesOwn (model X.prog X.w) X.A X.env X.xe) (hc:X.calm=true) (hi:SI X W M1 R1 tg e src) (hg:SG X M2 V2 tg g) (hb:SSs X W M3 V3 body cb')
  (hd:djB R1 (M2++M3)=true:=by decide) (hs:∀x,foldedSetIterable e X.env x=pure x:=by intro _;rfl):SS X W (M1++(M2++M3)) (V2++V3) (.For tg e body [] pos) (sFor src g cb'):=by
 obtain⟨t,p,q⟩:=hi.go
 obtain⟨t2,p2,q2⟩:=hg.go
 obtain⟨t3,p3,q3⟩:=hb.go
 refine⟨tFor t t2 t3,ps_for hp hc p p2 p3 hs,fun C fs env σ H tf E hC G po=>?_⟩
 show t σ H fun J H1=>_
 refine q C fs env σ H tf _ hC G ?_
 unfold sFor at po
 cases e1:src env with
 | err=>rw[e1]at po;exact po
 | ex x env'=>rw[e1]at po;exact fun cv dd fs' H' G' s=>po cv dd fs' σ H' G' (s.ss.weak JX (fun _ z=>nomatch z) fun _ z=>z)
 | ok ds env1 =>
  rw[e1]at po
  intro J fs1 H1 fp own G1 s1 src1 i1
  have po1:YL W C (M1++(M2++M3)) ([]++(V2++V3)) tf fs env σ H E (YF g cb' ds env1):=po
  have po2:=YL.step s1.ss po1
  have dj:=Yv hd
  refine for_it (n:=ds.length) src1.walk (fun i σ' H'=>∃fs' env',Good C fs' env' σ' H' (own++tf)∧StepS (M2++M3) (V2++V3) (own++tf) fs1 env1 σ H1 fs' env' σ' H'∧YL W C (M2++M3) (V2++V3) tf fs1 env1 σ H1 E (YF g cb' (ds.drop i) env'))
   ⟨fs1,env1,G1,.refl,by simpa using po2⟩ ?_ ?_ ?_
  ·rintro i σ' H' hi ⟨fs',env',G',s',_⟩
   exact⟨G'.fr,s'.s.m,i1.keep s'.s dj⟩
  ·rintro i x σ' H' H2 hi ⟨fs',env',G',s',po'⟩ ⟨le,d,hd',rd⟩
   have hdrop:ds.drop i=d::ds.drop (i+1):=by
    rw[List.drop_eq_getElem_cons hi]
    have:=List.getElem?_eq_some_iff.mp hd'
    obtain⟨_,h⟩:=this
    rw[h]
   rw[hdrop]at po'
   have G2:=G'.le' le
   have s2:=s'.trans (Step.grow (M:=[]) G' le).ss
   have s2:StepS (M2++M3) (V2++V3) (own++tf) fs1 env1 σ H1 fs' env' σ' H2:=by simpa using s2
   have po3:YL W C (M2++M3) (V2++V3) tf fs1 env1 σ H1 E (match g d env' with
    | none=>.err
    | some env1=>match cb' env1 with
     | .nx env2=>YF g cb' (ds.drop (i+1)) env2
     | .ct env2=>YF g cb' (ds.drop (i+1)) env2
     | .bk env2=>.nx env2
     | o=>o):=po'
   refine q2 C fs' env' σ' H2 (own++tf) _ d x [] hC (by simpa using G2) rd ?_
   cases eg:g d env' with
   | none=>rw[eg]at po3;exact po3.elim
   | some env3 =>
    rw[eg]at po3
    intro fs3 σ3 H3 G3 s3
    refine q3 C fs3 env3 σ3 H3 (own++tf) _ hC G3 ?_
    have po4:YL W C (M2++M3) (V2++V3) tf fs1 env1 σ H1 E (match cb' env3 with
     | .nx env2=>YF g cb' (ds.drop (i+1)) env2
     | .ct env2=>YF g cb' (ds.drop (i+1)) env2
     | .bk env2=>.nx env2
     | o=>o):=po3
    have s3':StepS (M2++M3) (V2++V3) (own++tf) fs1 env1 σ H1 fs3 env3 σ3 H3:=(s2.trans (s3.weak JX JX (M':=M2++M3) (Vs':=V2++V3) fun _ z=>z)).weak (fun i hi=>(List.mem_append.mp hi).elim id id) (fun i hi=>(List.mem_append.mp hi).elim id id) fun _ z=>z
    have comp:∀{fs4 env4 σ4 H4},StepS M3 V3 (own++tf) fs3 env3 σ3 H3 fs4 env4 σ4 H4→StepS (M2++M3) (V2++V3) (own++tf) fs1 env1 σ H1 fs4 env4 σ4 H4:=fun {fs4 env4 σ4 H4} s4 =>
     (s3'.trans (s4.weak (M':=M2++M3) (Vs':=V2++V3) QI QI fun _ z=>z)).weak (fun i hi=>(List.mem_append.mp hi).elim id id) (fun i hi=>(List.mem_append.mp hi).elim id id) fun _ z=>z
    have tfw:∀{fs4 env4 σ4 H4},StepS M3 V3 (own++tf) fs3 env3 σ3 H3 fs4 env4 σ4 H4→StepS (M2++M3) (V2++V3) tf fs1 env1 σ H1 fs4 env4 σ4 H4:=fun {fs4 env4 σ4 H4} s4=>(comp s4).weak (fun _ z=>z) (fun _ z=>z) fun x hx=>List.mem_append_right _ hx
    cases eb:cb' env3 with
    | nx env4 =>
     rw[eb]at po4
     exact fun fs4 σ4 H4 G4 s4=>⟨fs4,env4,G4,comp s4,po4⟩
    | ct env4 =>
     rw[eb]at po4
     exact fun fs4 σ4 H4 G4 s4=>⟨fs4,env4,G4,comp s4,po4⟩
    | bk env4 =>
     rw[eb]at po4
     exact fun fs4 σ4 H4 G4 s4=>po4 fs4 σ4 H4 G4.drop (tfw s4)
    | rt d4 env4 =>
     rw[eb]at po4
     intro v fs4 σ4 H4 fp4 G4 s4 r4
     refine po4 v fs4 σ4 H4 fp4 (G4.sub ?_) (tfw s4) r4
     exact(List.Sublist.refl _).append (List.sublist_append_right _ _)
    | ex x4 env4 =>
     rw[eb]at po4
     exact fun cv dd fs4 σ4 H4 G4 s4=>po4 cv dd fs4 σ4 H4 G4.drop (tfw s4)
    | err=>rw[eb]at po4;exact po4
  ·rintro σ' H' ⟨fs',env',G',s',po'⟩
   rw[List.drop_length]at po'
   exact po' fs' σ' H' G'.drop (s'.weak (fun _ z=>z) (fun _ z=>z) fun x hx=>List.mem_append_right _ hx)
theorem JbB (μ:Env→Nat) (hp:PassesOwn (model X.prog X.w) X.A X.env X.xe) (hc:ST X W M1 c ct) (hb:SSs X W M2 V2 body cb'):SS X W (M1++M2) V2 (.While c body [] pos) (Jbv μ ct cb'):=by
 obtain⟨t,p,q⟩:=hc.go
 obtain⟨t3,p3,q3⟩:=hb.go
 refine⟨tWhile t t3,ps_while hp p p3,fun C fs env σ H tf E hC G po=>?_⟩
 refine⟨fun m σ' H'=>∃fs' env',Good C fs' env' σ' H' tf∧StepS (M1++M2) V2 tf fs env σ H fs' env' σ' H'∧YL W C (M1++M2) V2 tf fs env σ H E (Uh ct cb' m env'),⟨μ env,fs,env,G,.refl,po⟩,?_⟩
 rintro m σ' H' ⟨fs',env',G',s',po'⟩
 cases m with
 | zero=>exact po'.elim
 | succ m =>
  refine q C fs' env' σ' H' tf _ hC G' ?_
  have po1:YL W C (M1++M2) V2 tf fs env σ H E (match ct env' with
   | .ok true env1=>match cb' env1 with
    | .nx env2=>Uh ct cb' m env2
    | .ct env2=>Uh ct cb' m env2
    | .bk env2=>.nx env2
    | o=>o
   | .ok false env1=>.nx env1
   | .ex x env=>.ex x env
   | .err=>.err):=po'
  have comp1:∀{fs4 env4 H4},Step M1 tf fs' env' H' fs4 env4 H4→StepS (M1++M2) V2 tf fs env σ H fs4 env4 σ' H4:=fun {fs4 env4 H4} s4 =>
   (s'.trans (s4.ss.weak (M':=M1++M2) (Vs':=V2) JX (fun _ z=>nomatch z) fun _ z=>z)).weak (fun i hi=>(List.mem_append.mp hi).elim id id) (fun i hi=>(List.mem_append.mp hi).elim id id) fun _ z=>z
  cases e1:ct env' with
  | err=>rw[e1]at po1;exact po1
  | ex x env1=>rw[e1]at po1;exact fun cv dd fs1 H1 G1 s1=>po1 cv dd fs1 σ' H1 G1 (comp1 s1)
  | ok k env1 =>
   intro fs1 H1 G1 s1
   rw[e1]at po1
   cases k with
   | false=>exact po1 fs1 σ' H1 G1 (comp1 s1)
   | true =>
    refine⟨fun σ3 H3=>∃fs3 env3,Good C fs3 env3 σ3 H3 tf∧StepS (M1++M2) V2 tf fs env σ H fs3 env3 σ3 H3∧YL W C (M1++M2) V2 tf fs env σ H E (Uh ct cb' m env3),fun σ3 H3 h=>⟨m,Nat.lt_succ_self m,h⟩,?_⟩
    refine q3 C fs1 env1 σ' H1 tf _ hC G1 ?_
    have s1':=comp1 s1
    have comp:∀{fs4 env4 σ4 H4},StepS M2 V2 tf fs1 env1 σ' H1 fs4 env4 σ4 H4→StepS (M1++M2) V2 tf fs env σ H fs4 env4 σ4 H4:=fun {fs4 env4 σ4 H4} s4 =>
     (s1'.trans (s4.weak (M':=M1++M2) (Vs':=V2) QI (fun _ z=>z) fun _ z=>z)).weak (fun i hi=>(List.mem_append.mp hi).elim id id) (fun i hi=>(List.mem_append.mp hi).elim id id) fun _ z=>z
    have po2:YL W C (M1++M2) V2 tf fs env σ H E (match cb' env1 with
     | .nx env2=>Uh ct cb' m env2
     | .ct env2=>Uh ct cb' m env2
     | .bk env2=>.nx env2
     | o=>o):=po1
    cases eb:cb' env1 with
    | nx env4=>rw[eb]at po2;exact fun fs4 σ4 H4 G4 s4=>⟨fs4,env4,G4,comp s4,po2⟩
    | ct env4=>rw[eb]at po2;exact fun fs4 σ4 H4 G4 s4=>⟨fs4,env4,G4,comp s4,po2⟩
    | bk env4=>rw[eb]at po2;exact fun fs4 σ4 H4 G4 s4=>po2 fs4 σ4 H4 G4 (comp s4)
    | rt d4 env4=>rw[eb]at po2;exact fun v fs4 σ4 H4 fp4 G4 s4 r4=>po2 v fs4 σ4 H4 fp4 G4 (comp s4) r4
    | ex x4 env4=>rw[eb]at po2;exact fun cv dd fs4 σ4 H4 G4 s4=>po2 cv dd fs4 σ4 H4 G4 (comp s4)
    | err=>rw[eb]at po2;exact po2
def Uk:List D→Option (List D)
 | [.int j]=>if -(2 ^ 62)≤j∧j < 2 ^ 62 then some ((List.range j.toNat).map fun i=>.int (i:Nat)) else none
 | _=>none
def UX (cs:CA):CA:=fun env=>(cs env).bind fun ds env=>R.of (Uk ds) env
theorem srcRange {lo:Int} {n:Nat}:SrcOk C (Itr lo n) ((List.range n).map fun (i:Nat)=>D.int (lo+(i:Nat))) [] H:=by
 refine⟨?_⟩
 have hl:((List.range n).map fun (i:Nat)=>D.int (lo+(i:Nat))).length=n:=by simp
 rw[hl]
 refine walk_range.mono (fun _ _=>trivial) fun i H x H' hi _ ⟨e1,e2⟩=>?_
 subst e1 e2
 exact⟨.refl _,.int (lo+i),by simp[hi],rfl,rfl⟩
theorem Zy {p2:Pos} (hg:Gl X "range") (hm:X.mg "range" = none) (ha:SA X W M Rs [a] cs) (hs:starEach [a] X.env=[(false,eval a X.env)]:=by rfl):SI X W M [] tg (.Call (.Name "range" p2) [a] [] pos) (UX cs):=by
 obtain⟨t,p,q⟩:=ha.go
 refine⟨iRng1 t,pi_range1 hg hm p hs,fun C fs env σ H tf Q hC G po=>q C fs env σ H tf _ hC G ?_⟩
 unfold UX at po
 cases e1:cs env with
 | err=>rw[e1]at po;exact po
 | ex x env'=>rw[e1]at po;exact po
 | ok ds env1 =>
  rw[e1]at po
  intro vs fs1 H1 fp own G1 s1 r1 i1
  have po':QP W C M [] tf fs env σ H Q (R.of (Uk ds) env1):=po
  cases e2:Uk ds with
  | none=>rw[e2]at po';exact po'.elim
  | some its =>
   rw[e2]at po'
   unfold Uk at e2
   split at e2
   ·rename_i j
    obtain⟨v,rfl,r⟩:=YR r1
    obtain⟨rfl,_⟩:=r
    split at e2
    ·rename_i hj
     cases e2
     refine⟨j,rfl,hj.1,hj.2,po' _ fs1 H1 [] [] (by simpa using G1.drop) s1 ?_ fun _ z=>nomatch z⟩
     have:=srcRange (C:=C) (H:=H1) (lo:=0) (n:=j.toNat)
     simpa using this
    ·cases e2
   ·cases e2
def iSeq (c:CE):CA:=fun env=>(c env).bind fun d env=>match d with
 | .lst _ ds=>if imms ds then .ok ds env else .err
 | _=>.err
theorem YD:∀{ds:List D} {vs:List V} {fp:List Addr} {i:Nat} {x:V},Reps C H ds vs fp→imms ds=true→vs[i]?=some x→∃d,ds[i]?=some d∧Rep C H d x []
 | [],vs,fp,i,x,⟨e,_⟩,_,h=>by subst e;simp at h
 | d::ds,vs,fp,0,x,⟨v,vs',f1,f2,e,r,rs,_⟩,hi,h=>by
  subst e
  have z:=Bool.and_eq_true_iff.mp hi
  simp at h;subst h
  have:=r.imm z.1
  subst this
  exact⟨d,by simp,r⟩
 | d::ds,vs,fp,i+1,x,⟨v,vs',f1,f2,e,r,rs,_⟩,hi,h=>by
  subst e
  have z:=Bool.and_eq_true_iff.mp hi
  obtain⟨d',h1,h2⟩:=YD (i:=i) rs z.2 (by simpa using h)
  exact⟨d',by simpa using h1,h2⟩
theorem si_list (h:SB X W M Rs e ca):SI X W M Rs tg e (iSeq ca):=by
 obtain⟨t,p,q⟩:=h.go
 refine⟨iList X.K t,pi_list p,fun C fs env σ H tf Q hC G po=>q C fs env σ H tf _ hC G ?_⟩
 unfold iSeq at po
 cases e1:ca env with
 | err=>rw[e1]at po;exact po
 | ex x env'=>rw[e1]at po;exact po
 | ok d env1 =>
  rw[e1]at po
  intro v fs1 H1 fp own G1 s1 r1 i1
  cases d with
  | lst g ds =>
   have po':QP W C M Rs tf fs env σ H Q (if imms ds then .ok ds env1 else .err):=po
   by_cases hi:imms ds=true
   ·rw[if_pos hi]at po'
    have r1':=r1
    obtain⟨a,vs,f1,f2,rfl,n,rs,hz,ef⟩:=r1
    have sq:SqL X.K H1 a vs:=by have:=(Nd.rd n G1.fr).sql;rwa[hC.1]at this
    refine⟨a,rfl,⟨vs,sq⟩,po' _ fs1 H1 fp own G1 s1 ⟨?_⟩ i1⟩
    have z:=rs.imm hi
    subst z
    rw[Je rs]
    refine Walk.mono (walk_list (K:=X.K) (a:=a) (xs:=vs)) (fun H2 ⟨hf2,hm,hk⟩=>?_) fun i H2 x H3 hi2 ⟨hf2,hm,hk⟩ ⟨e1,e2⟩=>?_
    ·have n2:Nd C H2 g a (.lst vs) f1:=Nd.keep n (fun b hb=>hk b (by rw[ef];simp[hb])) hm
     have:=(Nd.rd n2 hf2).sql;rwa[hC.1]at this
    ·subst e1
     have rs2:Reps C H3 ds vs []:=rs.keep (fun b hb=>nomatch hb) hm
     obtain⟨d,h1,h2⟩:=YD rs2 hi e2
     exact⟨.refl _,d,h1,h2⟩
   ·rw[if_neg hi]at po';exact po'.elim
  | _=>exact po.elim
def JcN (c:CE):CA:=fun env=>(c env).bind fun d env=>match d with
 | .tup ds=>if imms ds then .ok ds env else .err
 | _=>.err
theorem si_tup (h:SB X W M Rs e ca):SI X W M Rs tg e (JcN ca):=by
 obtain⟨t,p,q⟩:=h.go
 refine⟨iTup X.K t,pi_tup p,fun C fs env σ H tf Q hC G po=>q C fs env σ H tf _ hC G ?_⟩
 unfold JcN at po
 cases e1:ca env with
 | err=>rw[e1]at po;exact po
 | ex x env'=>rw[e1]at po;exact po
 | ok d env1 =>
  rw[e1]at po
  intro v fs1 H1 fp own G1 s1 r1 i1
  cases d with
  | tup ds =>
   have po':QP W C M Rs tf fs env σ H Q (if imms ds then .ok ds env1 else .err):=po
   by_cases hi:imms ds=true
   ·rw[if_pos hi]at po'
    have r1':=r1
    obtain⟨a,vs,rfl,n,rs⟩:=r1
    have sq:SqT X.K H1 a vs:=by rwa[hC.1]at n
    refine⟨a,rfl,⟨vs,sq⟩,po' _ fs1 H1 fp own G1 s1 ⟨?_⟩ i1⟩
    have z:=rs.imm hi
    subst z
    rw[Je rs]
    refine Walk.mono (walk_tup (K:=X.K) (a:=a) (xs:=vs)) (fun H2 ⟨hf2,hm,hk⟩=>?_) fun i H2 x H3 hi2 ⟨hf2,hm,hk⟩ ⟨e1,e2⟩=>?_
    ·exact Zq sq hm
    ·subst e1
     have rs2:Reps C H3 ds vs []:=rs.keep (fun b hb=>nomatch hb) hm
     obtain⟨d,h1,h2⟩:=YD rs2 hi e2
     exact⟨.refl _,d,h1,h2⟩
   ·rw[if_neg hi]at po';exact po'.elim
  | _=>exact po.elim
end
end VS
namespace VS
open PySem L2 SeqAt PySem.Spec PyProof.Rows
section
variable {C C':Ctx} {H:Hp}
structure Enter (C C':Ctx) (H:Hp):Prop where
 k:C'.K=C.K
 mg:C'.mg=C.mg
 h0:C'.H0=H
 lk:C'.Lk=C.Lk
 fr:Fr C H
 a:∀x∈C'.A,(x∈C.A∨C.H0 x=none)∧∃o,H x=some o∧Mutb o
theorem Enter.lnd {g a u fp} (E:Enter C C' H) (n:Nd C H g a u fp) (hd:∀b∈fp,b∉C'.A):Nd C' H g.lend a u []:=by
 have z:∀{o w},H a=some (.frz o w)→a∉C'.A:=fun {o w} e hm=>by
  obtain⟨_,q,e2,mu⟩:=E.a a hm
  rw[e]at e2;cases e2;exact mu
 cases g with
 | m =>
  obtain⟨e,rfl⟩:=n
  exact⟨.inl ⟨by rw[E.h0];exact .inl e,hd a (by simp)⟩,rfl⟩
 | l =>
  obtain⟨⟨r,na⟩ | h,_⟩:=n
  ·have nA:a∉C'.A:=fun hm=>by
    obtain⟨q,o,e,mu⟩:=E.a a hm
    rcases q with q | q
    ·exact na q
    ·rcases r with r | ⟨ob,r⟩<;>rw[q]at r<;>cases r
   refine⟨.inl ⟨?_,nA⟩,rfl⟩
   rw[E.h0]
   rcases r with r | ⟨ob,r⟩
   ·rcases E.fr a _ r na with q | ⟨_,_,ob,q⟩
    ·exact .inl q
    ·exact .inr ⟨ob,q⟩
   ·rcases E.fr a _ r na with q | ⟨_,mu,ob2,q⟩
    ·exact .inr ⟨ob,q⟩
    ·exact mu.elim
  ·exact⟨.inr (by rw[E.k];exact h),rfl⟩
 | f =>
  obtain⟨⟨o,e⟩,x,_⟩:=n
  exact⟨.inl ⟨by rw[E.h0];exact .inr ⟨o,e⟩,z e⟩,rfl⟩
 | k =>
  obtain⟨⟨o,e⟩,_⟩:=n
  exact⟨.inl ⟨by rw[E.h0];exact .inr ⟨o,e⟩,z e⟩,rfl⟩
theorem Enter.nd {g a u fp} (E:Enter C C' H) (n:Nd C H g a u fp):Nd C' H g a u fp:=by
 cases g with
 | m=>exact n
 | l=>obtain⟨h,e⟩:=n;subst e;exact E.lnd (g:=.l) ⟨h,rfl⟩ fun _ z=>nomatch z
 | f=>obtain⟨⟨o,e⟩,x,q⟩:=n;exact⟨⟨o,e⟩,by rw[E.lk];exact x,q⟩
 | k=>exact n
theorem Ul {c Ca} (h:C'.mg=C.mg) (q:JbL C c Ca):JbL C' c Ca:=by unfold JbL at *;rw[h];exact q
mutual
theorem Rep.enter (E:Enter C C' H):∀{d:D} {v:V} {fp:List Addr},Rep C H d v fp→Rep C' H d v fp
 | .non,v,fp,h=>h
 | .bl b,v,fp,h=>h
 | .int i,v,fp,h=>h
 | .str s,v,fp,h=>h
 | .ty s,v,fp,h=>h
 | .tup ds,v,fp,⟨a,vs,e,t,r⟩=>⟨a,vs,e,by rw[E.k];exact t,Reps.enter E r⟩
 | .lst g ds,v,fp,⟨a,vs,f1,f2,e,n,r,z,e2⟩=>⟨a,vs,f1,f2,e,E.nd n,Reps.enter E r,z,e2⟩
 | .dct g ks ds,v,fp,⟨a,vs,f1,f2,e,n,q,r,z,e2⟩=>⟨a,vs,f1,f2,e,E.nd n,q,Reps.enter E r,z,e2⟩
 | .obj g c ns ds,v,fp,⟨a,Ca,dx,fs,f1,f2,e,c1,n,q,r,z,e2⟩=>⟨a,Ca,dx,fs,f1,f2,e,Ul E.mg c1,E.nd n,q,Reps.enter E r,z,e2⟩
 | .exc c ns ds,v,fp,⟨a,Ca,d,fs,e,c1,n,x,q,r,e2⟩=>⟨a,Ca,d,fs,e,Ul E.mg c1,n,x,q,Reps.enter E r,e2⟩
theorem Reps.enter (E:Enter C C' H):∀{ds:List D} {vs:List V} {fp:List Addr},Reps C H ds vs fp→Reps C' H ds vs fp
 | [],vs,fp,h=>h
 | d::ds,vs,fp,⟨v,vs',f1,f2,e,r,rs,e2⟩=>⟨v,vs',f1,f2,e,Rep.enter E r,Reps.enter E rs,e2⟩
end
mutual
theorem Rep.lend (E:Enter C C' H):∀{d:D} {v:V} {fp:List Addr},Rep C H d v fp→(∀b∈fp,b∉C'.A)→Rep C' H d.lend v []
 | .non,v,fp,h,_=>⟨h.1,rfl⟩
 | .bl b,v,fp,h,_=>⟨h.1,rfl⟩
 | .int i,v,fp,h,_=>⟨h.1,rfl⟩
 | .str s,v,fp,h,_=>⟨h.1,rfl⟩
 | .ty s,v,fp,h,_=>⟨h.1,rfl⟩
 | .tup ds,v,fp,⟨a,vs,e,t,r⟩,hd=>⟨a,vs,e,by rw[E.k];exact t,Reps.lend E r hd⟩
 | .lst g ds,v,fp,⟨a,vs,f1,f2,e,n,r,z,e2⟩,hd=>⟨a,vs,[],[],e,E.lnd n (fun b hb=>hd b (by rw[e2];exact List.mem_append_left _ hb)),Reps.lend E r (fun b hb=>hd b (by rw[e2];exact List.mem_append_right _ hb)),.inr rfl,rfl⟩
 | .dct g ks ds,v,fp,⟨a,vs,f1,f2,e,n,q,r,z,e2⟩,hd=>⟨a,vs,[],[],e,E.lnd n (fun b hb=>hd b (by rw[e2];exact List.mem_append_left _ hb)),q,Reps.lend E r (fun b hb=>hd b (by rw[e2];exact List.mem_append_right _ hb)),.inr rfl,rfl⟩
 | .obj g c ns ds,v,fp,⟨a,Ca,dx,fs,f1,f2,e,c1,n,q,r,z,e2⟩,hd=>⟨a,Ca,dx,fs,[],[],e,Ul E.mg c1,E.lnd n (fun b hb=>hd b (by rw[e2];exact List.mem_append_left _ hb)),q,Reps.lend E r (fun b hb=>hd b (by rw[e2];exact List.mem_append_right _ hb)),.inr rfl,rfl⟩
 | .exc c ns ds,v,fp,⟨a,Ca,d,fs,e,c1,n,x,q,r,e2⟩,_=>⟨a,Ca,d,fs,e,Ul E.mg c1,n,x,q,Reps.enter E r,rfl⟩
theorem Reps.lend (E:Enter C C' H):∀{ds:List D} {vs:List V} {fp:List Addr},Reps C H ds vs fp→(∀b∈fp,b∉C'.A)→Reps C' H (lends ds) vs []
 | [],vs,fp,h,_=>⟨h.1,rfl⟩
 | d::ds,vs,fp,⟨v,vs',f1,f2,e,r,rs,e2⟩,hd=>⟨v,vs',[],[],e,Rep.lend E r (fun b hb=>hd b (by rw[e2];exact List.mem_append_left _ hb)),Reps.lend E rs (fun b hb=>hd b (by rw[e2];exact List.mem_append_right _ hb)),rfl⟩
end
mutual
theorem Rep.leave (hk:C'.K=C.K) (hm:C'.mg=C.mg) (hl:C'.Lk=C.Lk):∀{d:D} {v:V} {fp:List Addr},Rep C' H d v fp→d.nol=true→Rep C H d v fp
 | .non,v,fp,h,_=>h
 | .bl b,v,fp,h,_=>h
 | .int i,v,fp,h,_=>h
 | .str s,v,fp,h,_=>h
 | .ty s,v,fp,h,_=>h
 | .tup ds,v,fp,⟨a,vs,e,t,r⟩,hn=>⟨a,vs,e,by rw[←hk];exact t,Reps.leave hk hm hl r hn⟩
 | .lst g ds,v,fp,⟨a,vs,f1,f2,e,n,r,z,e2⟩,hn=>⟨a,vs,f1,f2,e,nd_leave hl n (Bool.and_eq_true_iff.mp hn).1,Reps.leave hk hm hl r (Bool.and_eq_true_iff.mp hn).2,z,e2⟩
 | .dct g ks ds,v,fp,⟨a,vs,f1,f2,e,n,q,r,z,e2⟩,hn=>⟨a,vs,f1,f2,e,nd_leave hl n (Bool.and_eq_true_iff.mp hn).1,q,Reps.leave hk hm hl r (Bool.and_eq_true_iff.mp hn).2,z,e2⟩
 | .obj g c ns ds,v,fp,⟨a,Ca,dx,fs,f1,f2,e,c1,n,q,r,z,e2⟩,hn=>⟨a,Ca,dx,fs,f1,f2,e,Ul hm.symm c1,nd_leave hl n (Bool.and_eq_true_iff.mp hn).1,q,Reps.leave hk hm hl r (Bool.and_eq_true_iff.mp hn).2,z,e2⟩
 | .exc c ns ds,v,fp,⟨a,Ca,d,fs,e,c1,n,x,q,r,e2⟩,hn=>⟨a,Ca,d,fs,e,Ul hm.symm c1,n,x,q,Reps.leave hk hm hl r hn,e2⟩
theorem Reps.leave (hk:C'.K=C.K) (hm:C'.mg=C.mg) (hl:C'.Lk=C.Lk):∀{ds:List D} {vs:List V} {fp:List Addr},Reps C' H ds vs fp→nols ds=true→Reps C H ds vs fp
 | [],vs,fp,h,_=>h
 | d::ds,vs,fp,⟨v,vs',f1,f2,e,r,rs,e2⟩,hn=>⟨v,vs',f1,f2,e,Rep.leave hk hm hl r (Bool.and_eq_true_iff.mp hn).1,Reps.leave hk hm hl rs (Bool.and_eq_true_iff.mp hn).2,e2⟩
theorem nd_leave {g a u fp} (hl:C'.Lk=C.Lk) (n:Nd C' H g a u fp) (h:(g == .m || g == .f)=true):Nd C H g a u fp:=by
 cases g with
 | m=>exact n
 | l=>cases h
 | f=>obtain⟨⟨o,e⟩,x,q⟩:=n;exact⟨⟨o,e⟩,by rw[←hl];exact x,q⟩
 | k=>cases h
end
end
inductive FR where
 | ok (r:D) (outs:List D)
 | ex (x:Exn) (outs:List D)
 | err
def Yw:List Bool→Env→Option (List D)
 | [],_=>some []
 | true::bs,some d::env=>(Yw bs env).map (d::·)
 | false::bs,_::env=>Yw bs env
 | _,_=>none
def JaK (io:List Bool):O→FR
 | .nx env=>match Yw io env with
  | some os=>.ok .non os
  | none=>.err
 | .rt d env=>match Yw io env with
  | some os=>.ok d os
  | none=>.err
 | .ex x env=>match Yw io env with
  | some os=>.ex x os
  | none=>.err
 | _=>.err
def ZF (n:Nat) (ds:List D):Env:=ds.map some++List.replicate (n - ds.length) none
def YQ (n:Nat) (io:List Bool) (c:CS) (ds:List D):FR:=if ds.length=io.length∧io.length≤n then JaK io (c (ZF n ds)) else .err
def ArgR (C:Ctx) (H:Hp):List Bool→List D→List V→FPs→Prop
 | [],ds,vs,fps=>ds=[]∧vs=[]∧fps=[]
 | b::bs,ds,vs,fps=>∃d ds' v vs' fp fps',ds=d::ds'∧vs=v::vs'∧fps=fp::fps'∧Rep C H d v fp∧(b=true∨fp=[])∧ArgR C H bs ds' vs' fps'
def OutR (C:Ctx) (H:Hp):List Bool→List D→List V→FPs→Prop
 | [],os,vs,fps=>os=[]∧fps=[]
 | true::bs,os,vs,fps=>∃o os' v vs' fp fps',os=o::os'∧vs=v::vs'∧fps=fp::fps'∧Rep C H o v fp∧OutR C H bs os' vs' fps'
 | false::bs,os,vs,fps=>∃v vs',vs=v::vs'∧OutR C H bs os vs' fps
def PostF (C:Ctx) (H:Hp) (io:List Bool) (vs:List V) (Q:VK) (E:XK):FR→Prop
 | .ok r os=>∀v H' fp fps,Fr C H'→Mono H H'→Rep C H' r v fp→OutR C H' io os vs fps→(fp++fps.flatten).Nodup→(∀a∈fp++fps.flatten,a∈C.A∨H a=none)→Q v H'
 | .ex x os=>∀cv dd H' fps,Fr C H'→Mono H H'→ExIs C x cv dd H'→OutR C H' io os vs fps→fps.flatten.Nodup→(∀a∈fps.flatten,a∈C.A∨H a=none)→E cv dd H'
 | .err=>False
def spF (K:PySem.W.Frag) (mg:Str→Option Value) (io:List Bool) (φ:List D→FR):Sp:=fun vs H Q E=>∃(Lk:List Addr) (ds:List D) (fps:FPs),
 vs.length=io.length∧ArgR ⟨K,mg,H,fps.flatten,Lk⟩ H io ds vs fps∧fps.flatten.Nodup∧(∀a∈Lk,∃ob u,H a=some (.frz ob u))∧PostF ⟨K,mg,H,fps.flatten,Lk⟩ H io vs Q E (φ ds)
theorem fr_entry {C:Ctx} {H:Hp} (h:C.H0=H):Fr C H:=fun a o e _=>.inl (by rw[←h];exact e)
theorem ArgR.len {C H}:∀{io ds vs fps},ArgR C H io ds vs fps→ds.length=io.length∧vs.length=io.length∧fps.length=io.length
 | [],ds,vs,fps,⟨h1,h2,h3⟩=>by subst h1 h2 h3;exact⟨rfl,rfl,rfl⟩
 | b::bs,ds,vs,fps,⟨d,ds',v,vs',fp,fps',h1,h2,h3,_,_,r⟩=>by
  subst h1 h2 h3
  obtain⟨a1,a2,a3⟩:=ArgR.len r
  exact⟨by simp[a1],by simp[a2],by simp[a3]⟩
theorem ArgR.get {C H}:∀{io ds vs fps} {i:Nat} {d:D},ArgR C H io ds vs fps→ds[i]?=some d→∃v,vs[i]?=some v∧Rep C H d v (fps.getD i [])
 | [],ds,vs,fps,i,d,⟨h1,h2,h3⟩,h=>by subst h1;simp at h
 | b::bs,ds,vs,fps,0,d,⟨d0,ds',v,vs',fp,fps',h1,h2,h3,r,_,_⟩,h=>by
  subst h1 h2 h3
  simp at h;subst h
  exact⟨v,by simp,by simpa using r⟩
 | b::bs,ds,vs,fps,i+1,d,⟨d0,ds',v,vs',fp,fps',h1,h2,h3,_,_,r⟩,h=>by
  subst h1 h2 h3
  obtain⟨v',h1,h2⟩:=ArgR.get (i:=i) r (by simpa using h)
  exact⟨v',by simpa using h1,by simpa using h2⟩
theorem ArgR.trk {C H}:∀{io ds vs fps},ArgR C H io ds vs fps→∀a∈fps.flatten,∃o,H a=some o∧Mutb o
 | [],ds,vs,fps,⟨h1,h2,h3⟩=>by subst h3;intro a ha;simp at ha
 | b::bs,ds,vs,fps,⟨d0,ds',v,vs',fp,fps',h1,h2,h3,r,_,rs⟩=>by
  subst h3
  intro a ha
  rw[List.flatten_cons]at ha
  exact(List.mem_append.mp ha).elim (r.trk a) (ArgR.trk rs a)
theorem Jal (fps:FPs) (n:Nat):(fps++List.replicate n []).flatten=fps.flatten:=by
 rw[List.flatten_append]
 have:(List.replicate n ([]:List Addr)).flatten=[]:=by
  rw[List.flatten_eq_nil_iff];intro l hl;exact(List.mem_replicate.mp hl).2
 rw[this,List.append_nil]
theorem good_start {C:Ctx} {H:Hp} {N:List Str} {io ds vs fps} (h0:C.H0=H) (hA:C.A=fps.flatten) (r:ArgR C H io ds vs fps) (nd:fps.flatten.Nodup) (hl:io.length≤N.length) (hk:∀a∈C.Lk,∃ob u,H a=some (.frz ob u)) :
  Good C (fps++List.replicate (N.length - fps.length) []) (ZF N.length ds) (L2.start N vs) H []:=by
 obtain⟨l1,l2,l3⟩:=r.len
 refine⟨?_,?_,fun i d e=>?_,?_,fun a ha=>?_,fun a ha=>?_,fr_entry h0,hk⟩
 ·simp[ZF,L2.start];omega
 ·simp[L2.start];omega
 ·unfold ZF at e
  have hi:i < ds.length:=by
   by_cases hi:i < ds.length
   ·exact hi
   ·rw[List.getElem?_append_right (by simp;omega)]at e
    rw[List.getElem?_replicate]at e
    split at e<;>simp at e
  rw[List.getElem?_append_left (by simpa using hi),List.getElem?_map]at e
  have e':ds[i]?=some d:=by
   cases q:ds[i]? with
   | none=>rw[q]at e;simp at e
   | some x=>rw[q]at e;simp at e;rw[e]
  obtain⟨v,h1,h2⟩:=r.get e'
  refine⟨v,?_,?_⟩
  ·unfold L2.start
   rw[List.getElem?_append_left (by simp;omega),List.getElem?_map,h1];rfl
  ·have:(fps++List.replicate (N.length - fps.length) []).getD i []=fps.getD i []:=by
    rw[List.getD_eq_getElem?_getD,List.getD_eq_getElem?_getD,List.getElem?_append_left (by omega)]
   rw[this];exact h2
 ·rw[Jal,List.append_nil];exact nd
 ·rw[Jal,List.append_nil]at ha;exact .inl (by rw[hA];exact ha)
 ·rw[Jal,List.append_nil]at ha;exact r.trk a ha
def Jx:Nat→List Bool→List Nat
 | _,[]=>[]
 | n,true::bs=>n::Jx (n+1) bs
 | n,false::bs=>Jx (n+1) bs
theorem Qp {C:Ctx} {H':Hp} {fs:FPs} {env:Env} {σ:L2.St} (hrep:∀i d,env[i]?=some (some d)→∃v,σ[i]?=some (some v)∧Rep C H' d v (fs.getD i [])):∀{n:Nat} {io:List Bool} {os:List D} {vs:List V},
  Yw io (env.drop n)=some os→vs.length=io.length→(∀j∈Jx n io,σ[j]?=(vs[j - n]?).map some)→OutR C H' io os vs ((Jx n io).map fun j=>fs.getD j [])
 | n,[],os,vs,h,hl,hv=>by simp[Yw]at h;exact⟨h.symm ▸ rfl,rfl⟩
 | n,true::bs,os,vs,h,hl,hv=>by
  cases vs with
  | nil=>simp at hl
  | cons v vs =>
   cases q:env.drop n with
   | nil=>rw[q]at h;simp[Yw]at h
   | cons od rest =>
    rw[q]at h
    cases od with
    | none=>simp[Yw]at h
    | some d =>
     have hd:env[n]?=some (some d):=by
      have:=congrArg List.head? q
      simpa [List.head?_drop] using this
     have hrest:rest=env.drop (n+1):=by
      have:=congrArg List.tail q
      simpa [List.tail_drop] using this.symm
     simp only[Yw]at h
     obtain⟨os',h1,rfl⟩:=Option.map_eq_some_iff.mp h
     rw[hrest]at h1
     obtain⟨w,e1,r⟩:=hrep n d hd
     have:=hv n (by simp[Jx])
     simp at this
     rw[this]at e1;cases e1
     refine⟨d,os',v,vs,_,_,rfl,rfl,rfl,r,Qp hrep h1 (by simpa using hl) fun j hj=>?_⟩
     have hj1:n+1≤j:=by
      have key:∀(bs:List Bool) (m:Nat),∀j∈Jx m bs,m≤j:=by
       intro bs
       induction bs with
       | nil=>intro m j h;simp[Jx]at h
       | cons b bs ih =>
        intro m j h
        cases b with
        | true =>
         simp only[Jx,List.mem_cons]at h
         rcases h with h | h
         ·omega
         ·have:=ih _ _ h;omega
        | false=>simp only[Jx]at h;have:=ih _ _ h;omega
      exact key bs (n+1) j hj
     have:=hv j (by simp[Jx,hj])
     rw[this]
     have e:j - n=(j - (n+1))+1:=by omega
     rw[e];simp
 | n,false::bs,os,vs,h,hl,hv=>by
  cases vs with
  | nil=>simp at hl
  | cons v vs =>
   cases q:env.drop n with
   | nil=>rw[q]at h;simp[Yw]at h
   | cons od rest =>
    rw[q]at h
    have hrest:rest=env.drop (n+1):=by
     have:=congrArg List.tail q
     simpa [List.tail_drop] using this.symm
    simp only[Yw]at h
    rw[hrest]at h
    refine⟨v,vs,rfl,Qp hrep h (by simpa using hl) fun j hj=>?_⟩
    have hj1:n+1≤j:=by
     have key:∀(bs:List Bool) (m:Nat),∀j∈Jx m bs,m≤j:=by
      intro bs
      induction bs with
      | nil=>intro m j h;simp[Jx]at h
      | cons b bs ih =>
       intro m j h
       cases b with
       | true =>
        simp only[Jx,List.mem_cons]at h
        rcases h with h | h
        ·omega
        ·have:=ih _ _ h;omega
       | false=>simp only[Jx]at h;have:=ih _ _ h;omega
     exact key bs (n+1) j hj
    have:=hv j (by simp[Jx,hj])
    rw[this]
    have e:j - n=(j - (n+1))+1:=by omega
    rw[e];simp
theorem ZK:∀(io:List Bool) (n:Nat),∀j∈Jx n io,n≤j∧j < n+io.length
 | [],n=>by intro j h;simp[Jx]at h
 | true::bs,n=>by
  intro j h
  simp only[Jx,List.mem_cons]at h
  rcases h with h | h
  ·simp;omega
  ·have:=ZK bs _ _ h;simp;omega
 | false::bs,n=>by
  intro j h
  simp only[Jx]at h
  have:=ZK bs _ _ h;simp;omega
theorem Uu:∀(io:List Bool) (n:Nat) (fs:FPs),(((Jx n io).map fun j=>fs.getD j []).flatten).Sublist ((fs.drop n).flatten)
 | [],n,fs=>by simp[Jx]
 | true::bs,n,fs=>by
  simp only[Jx,List.map_cons,List.flatten_cons]
  cases q:fs.drop n with
  | nil =>
   have hn:fs.length≤n:=by simpa using q
   have:fs.getD n []=[]:=by rw[List.getD_eq_getElem?_getD,List.getElem?_eq_none hn];rfl
   rw[this,List.nil_append]
   have:=Uu bs (n+1) fs
   rw[List.drop_eq_nil_of_le (by omega)]at this
   exact this
  | cons f r =>
   have e1:fs.getD n []=f:=by
    have:=congrArg List.head? q
    rw[List.head?_drop]at this
    rw[List.getD_eq_getElem?_getD,this];rfl
   have e2:fs.drop (n+1)=r:=by
    have:=congrArg List.tail q
    simpa [List.tail_drop] using this
   rw[e1,List.flatten_cons]
   have:=Uu bs (n+1) fs
   rw[e2]at this
   exact(List.Sublist.refl f).append this
 | false::bs,n,fs=>by
  simp only[Jx]
  refine (Uu bs (n+1) fs).trans ?_
  cases q:fs.drop n with
  | nil =>
   have hn:fs.length≤n:=by simpa using q
   rw[List.drop_eq_nil_of_le (by omega)];simp
  | cons f r =>
   have e2:fs.drop (n+1)=r:=by
    have:=congrArg List.tail q
    simpa [List.tail_drop] using this
   rw[e2,List.flatten_cons]
   exact List.sublist_append_right _ _
theorem Jci {X:Cx} {K:PySem.W.Frag} {mg:Str→Option Value} {scope:Scope} {sts:List Stmt} {N ps:List Str} {io:List Bool} {c:CS} {M Vs:List Nat} {vs:List V} {H:Hp} {Q:VK} {E:XK} (hK:K=X.K) (hmg:mg=X.mg)
  (S:FnScope N ps scope) (hio:io.length=ps.length) (hv:djB (Jx 0 io) Vs=true) (hb:SSs X (fun cls d _ H=>E cls d H) M Vs sts c) (h:spF K mg io (YQ N.length io c) vs H Q E) :
  ∃t,PSs X sts t∧t { nx:=fun _ H'=>Q .non H',rt:=Q } (L2.start N vs) H:=by
 obtain⟨Lk,ds,fps,hl,hA,nd,hk,po⟩:=h
 obtain⟨t,p,q⟩:=hb.go
 refine⟨t,p,?_⟩
 obtain⟨l1,l2,l3⟩:=hA.len
 have hN:io.length≤N.length:=by
  have:=congrArg List.length S.pre
  rw[List.length_take]at this
  omega
 have G:=good_start (C:=⟨K,mg,H,fps.flatten,Lk⟩) (N:=N) rfl rfl hA nd hN hk
 unfold YQ at po
 rw[if_pos ⟨l1,hN⟩]at po
 have vals:∀{σ':L2.St},(∀i,i∉Vs→σ'[i]?=(L2.start N vs)[i]?)→∀j∈Jx 0 io,σ'[j]?=(vs[j - 0]?).map some:=fun {σ'} h j hj=>by
  rw[h j (Yv hv j hj),Nat.sub_zero]
  have:=ZK io 0 j hj
  unfold L2.start
  rw[List.getElem?_append_left (by simp;omega),List.getElem?_map]
 have own:∀{fs' env' σ' H' fp},Good ⟨K,mg,H,fps.flatten,Lk⟩ fs' env' σ' H' (fp++[])→(fp++((Jx 0 io).map fun j=>fs'.getD j []).flatten).Nodup∧∀a∈fp++((Jx 0 io).map fun j=>fs'.getD j []).flatten,a∈fps.flatten∨H a=none:=fun {fs' env' σ' H' fp} G'=>by
  have sub:=Uu io 0 fs'
  rw[List.drop_zero]at sub
  have p1:(fp++fs'.flatten).Perm (fs'.flatten++(fp++[])):=by rw[List.append_nil];exact List.perm_append_comm
  have s2:=(List.Sublist.refl fp).append sub
  exact⟨(p1.nodup_iff.mpr G'.nd).sublist s2,fun a ha=>G'.own a (p1.mem_iff.mp (s2.subset ha))⟩
 refine q ⟨K,mg,H,fps.flatten,Lk⟩ _ (ZF N.length ds) (L2.start N vs) H [] _ ⟨hK,hmg⟩ G ?_
 cases eo:c (ZF N.length ds) with
 | nx env' =>
  rw[eo]at po
  intro fs' σ' H' G' s'
  simp only[JaK]at po
  cases e2:Yw io env' with
  | none=>rw[e2]at po;exact po.elim
  | some os =>
   rw[e2]at po
   obtain⟨o1,o2⟩:=own (fp:=[]) (by simpa using G')
   exact po .non H' [] _ G'.fr s'.s.m ⟨rfl,rfl⟩ (Qp (n:=0) G'.rep (by rw[List.drop_zero];exact e2) hl (vals s'.v)) o1 o2
 | rt d env' =>
  rw[eo]at po
  intro v fs' σ' H' fp G' s' r
  simp only[JaK]at po
  cases e2:Yw io env' with
  | none=>rw[e2]at po;exact po.elim
  | some os =>
   rw[e2]at po
   obtain⟨o1,o2⟩:=own G'
   exact po v H' fp _ G'.fr s'.s.m r (Qp (n:=0) G'.rep (by rw[List.drop_zero];exact e2) hl (vals s'.v)) o1 o2
 | ex x env' =>
  rw[eo]at po
  intro cv dd fs' σ' H' G' s' hx
  simp only[JaK]at po
  cases e2:Yw io env' with
  | none=>rw[e2]at po;exact po.elim
  | some os =>
   rw[e2]at po
   obtain⟨o1,o2⟩:=own (fp:=[]) (by simpa using G')
   exact po cv dd H' _ G'.fr s'.s.m hx (Qp (n:=0) G'.rep (by rw[List.drop_zero];exact e2) hl (vals s'.v)) (by simpa using o1) (by simpa using o2)
 | bk env'=>rw[eo]at po;exact po.elim
 | ct env'=>rw[eo]at po;exact po.elim
 | err=>rw[eo]at po;exact po.elim
theorem fn_ok {P:Program} {w:World} {K:PySem.W.Frag} {mg:Str→Option Value} {base:Heap} {x qual:Str} {st:Stmt} {f:Addr} {fd:FuncData} {N ps:List Str} {k:Nat} {io:List Bool} {c:CS} {M Vs:List Nat}
  (F:Fun K x qual st f fd) (S:FnScope N ps (defScope st)) (hio:io.length=ps.length) (hv:djB (Jx 0 io) Vs=true)
  (hb:∀(cdv:Value) (A:Around) (outer:List PySem.Env) (s:Shared) (H:Hp) (E:XK),Room k (A.deeper (envOfC qual (defScope st) s.heap.objs.size f cdv)) →
   SSs (cxOf (L2.CX P w) P w K mg base N qual (defScope st) f cdv A outer s H E) (fun cls d _ H=>E cls d H) M Vs (defBody st) c) :
  FnOk P w K mg base (L2.CX P w) (k+1) f fd ps (spF K mg io (YQ N.length io c)):=by
 refine F.okX S (fun vs H Q E h=>by obtain⟨Lk,ds,fps,hl,_⟩:=h;rw[hl,hio]) fun cdv A outer s H vs Q E hr h=>?_
 exact Jci rfl rfl S hio hv (hb cdv A outer s H E hr) h
end VS
namespace VS
open PySem L2 SeqAt
inductive AV where
 | ro (d:D)
 | ow (d:D) (wb:Option Nat)
def AV.d:AV→D
 | .ro d=>d.lend
 | .ow d _=>d
def AV.io:AV→Bool
 | .ro _=>false
 | .ow _ _=>true
def wbOk (σ:St) (Ms:List Nat) (v:V):Option Nat→Prop
 | none=>True
 | some i=>σ[i]?=some (some v)∧i∈Ms
def AOk (C:Ctx) (H:Hp) (σ:St) (Ms Rs:List Nat) (fs:FPs) (ownr:List Addr):List AV→List V→FPs→Prop
 | [],vs,fps=>vs=[]∧fps=[]
 | .ro d::as,vs,fps=>∃v vs' fp fps',vs=v::vs'∧fps=[]::fps'∧Rep C H d v fp∧In Rs ownr fs fp∧AOk C H σ Ms Rs fs ownr as vs' fps'
 | .ow d wb::as,vs,fps=>∃v vs' fp fps',vs=v::vs'∧fps=fp::fps'∧Rep C H d v fp∧wbOk σ Ms v wb∧AOk C H σ Ms Rs fs ownr as vs' fps'
def JbO (W:WX) (C:Ctx) (M Rs:List Nat) (tf:List Addr) (fs:FPs) (env:Env) (σ:St) (H:Hp) (Q:List V→Hp→Prop):R (List AV)→Prop
 | .ok avs env'=>∀vs fs' H' fps ownr,Good C fs' env' σ H' (fps.flatten++(ownr++tf))→Step M tf fs env H fs' env' H'→AOk C H' σ M Rs fs' ownr avs vs fps→Q vs H'
 | .ex x env'=>∀cv dd fs' H',Good C fs' env' σ H' tf→Step M tf fs env H fs' env' H'→ExIs C x cv dd H'→W cv dd σ H'
 | .err=>False
structure SR (X:Cx) (W:WX) (M Rs:List Nat) (es:List Expr) (c:Env→R (List AV)):Prop where
 go:∃t,PA X es t∧∀C fs env σ H tf Q,C.At X→Good C fs env σ H tf→JbO W C M Rs tf fs env σ H Q (c env)→t σ H Q
section
variable {X:Cx} {W:WX} {M M1 M2 M3 V1 V2 V3 Rs R1 R2 R3:List Nat} {e a b c tg:Expr} {es:List Expr} {ca cb cc:CE} {pos p:Pos} {cr:Env→R (List AV)}
variable {pins:List (Addr × Obj)} {σ:St} {H H1 H2:Hp} {s:Shared} {C C':Ctx} {fs fs1 fs2:FPs} {env env1 env2:Env} {tf tf' own:List Addr}
theorem Good.perm (G:Good C fs env σ H tf) (h:tf'.Perm tf):Good C fs env σ H tf':=by
 have p:=h.append_left fs.flatten
 exact⟨G.le,G.lf,G.rep,p.nodup_iff.mpr G.nd,fun a ha=>G.own a (p.mem_iff.mp ha),fun a ha=>G.trk a (p.mem_iff.mp ha),G.fr,G.lk⟩
theorem wbOk.mono {v} {M1 M2:List Nat} (h:∀i∈M1,i∈M2):∀{wb},wbOk σ M1 v wb→wbOk σ M2 v wb
 | none,_=>trivial
 | some i,⟨a,b⟩=>⟨a,h i b⟩
theorem AOk.mono {ownr ownr'} (h:∀i∈M1,i∈M2) (hr:∀i∈R1,i∈R2) (ho:∀a∈ownr,a∈ownr'):∀{avs vs fps},AOk C H σ M1 R1 fs ownr avs vs fps→AOk C H σ M2 R2 fs ownr' avs vs fps
 | [],vs,fps,x=>x
 | .ro d::as,vs,fps,⟨v,vs',fp,fps',e1,e2,r,i,x⟩=>⟨v,vs',fp,fps',e1,e2,r,i.mono hr ho,AOk.mono h hr ho x⟩
 | .ow d wb::as,vs,fps,⟨v,vs',fp,fps',e1,e2,r,i,x⟩=>⟨v,vs',fp,fps',e1,e2,r,i.mono h,AOk.mono h hr ho x⟩
def aNil:Env→R (List AV):=fun env=>.ok [] env
theorem sr_nil:SR X W [] [] [] aNil:=by
 refine⟨tNil,pa_nil,fun C fs env σ H tf Q hC G po=>?_⟩
 exact po [] fs H [] [] (by simpa using G) .refl ⟨rfl,rfl⟩
def aRo (ca:CE) (cr:Env→R (List AV)):Env→R (List AV):=fun env=>(ca env).bind fun d env=>(cr env).bind fun as env=>.ok (.ro d::as) env
def aOw (ca:CE) (wb:Option Nat) (cr:Env→R (List AV)):Env→R (List AV):=fun env=>(ca env).bind fun d env=>(cr env).bind fun as env=>.ok (.ow d wb::as) env
theorem sr_ro (ha:SB X W M1 R1 a ca) (hr:SR X W M2 R2 es cr) (hd:djB R1 M2=true:=by decide) (hs:starEach (a::es) X.env=(false,eval a X.env)::starEach es X.env:=by rfl):SR X W (M1++M2) (R1++R2) (a::es) (aRo ca cr):=by
 obtain⟨t,p,q⟩:=ha.go
 obtain⟨t2,p2,q2⟩:=hr.go
 refine⟨tCons t t2,pa_cons p p2 hs,fun C fs env σ H tf Q hC G po=>?_⟩
 refine q C fs env σ H tf _ hC G ?_
 unfold aRo at po
 cases e1:ca env with
 | err=>rw[e1]at po;exact po
 | ex x env'=>rw[e1]at po;exact fun cv dd fs' H' G' s=>po cv dd fs' H' G' (s.weak JX fun _ z=>z)
 | ok d env1 =>
  rw[e1]at po
  intro v fs1 H1 fp1 own1 G1 s1 r1 i1
  refine q2 C fs1 env1 σ H1 (own1++tf) _ hC G1 ?_
  have po':JbO W C (M1++M2) (R1++R2) tf fs env σ H Q ((cr env1).bind fun as env=>.ok (.ro d::as) env):=po
  cases e2:cr env1 with
  | err=>rw[e2]at po';exact po'
  | ex x env'=>rw[e2]at po';exact fun cv dd fs' H' G' s=>po' cv dd fs' H' G'.drop (s1.trans (s.weak (fun _ z=>z) fun x hx=>List.mem_append_right _ hx))
  | ok as env2 =>
   rw[e2]at po'
   intro vs fs2 H2 fps ownr G2 s2 r2
   have po2:∀vs fs' H' fps ownr,Good C fs' env2 σ H' (fps.flatten++(ownr++tf))→Step (M1++M2) tf fs env H fs' env2 H'→AOk C H' σ (M1++M2) (R1++R2) fs' ownr (.ro d::as) vs fps→Q vs H':=po'
   refine po2 (v::vs) fs2 H2 ([]::fps) (ownr++own1) (by simpa using G2) (s1.trans (s2.weak (fun _ z=>z) fun x hx=>List.mem_append_right _ hx)) ?_
   exact⟨v,vs,fp1,fps,rfl,rfl,r1.keep (i1.keep s2 (Yv hd)) s2.m,(i1.step (own2:=ownr) s2 (Yv hd)).mono JX fun _ z=>z,r2.mono QI QI fun _ z=>List.mem_append_left _ z⟩
theorem ow_go {t:TE} {t2:TA} {wb:Option Nat} (hs:starEach (a::es) X.env=(false,eval a X.env)::starEach es X.env) (p:PE X a t) (p2:PA X es t2)
  (q:∀C fs env σ H tf Q,C.At X→Good C fs env σ H tf→(match ca env with
   | .ok d env'=>∀v fs' H' fp,Good C fs' env' σ H' (fp++tf)→Step M1 tf fs env H fs' env' H'→Rep C H' d v fp→wbOk σ M1 v wb→Q v H'
   | .ex x env'=>∀cv dd fs' H',Good C fs' env' σ H' tf→Step M1 tf fs env H fs' env' H'→ExIs C x cv dd H'→W cv dd σ H'
   | .err=>False)→t σ H Q)
  (q2:∀C fs env σ H tf Q,C.At X→Good C fs env σ H tf→JbO W C M2 R2 tf fs env σ H Q (cr env)→t2 σ H Q):SR X W (M1++M2) R2 (a::es) (aOw ca wb cr):=by
 refine⟨tCons t t2,pa_cons p p2 hs,fun C fs env σ H tf Q hC G po=>?_⟩
 refine q C fs env σ H tf _ hC G ?_
 unfold aOw at po
 cases e1:ca env with
 | err=>rw[e1]at po;exact po
 | ex x env'=>rw[e1]at po;exact fun cv dd fs' H' G' s=>po cv dd fs' H' G' (s.weak JX fun _ z=>z)
 | ok d env1 =>
  rw[e1]at po
  intro v fs1 H1 fp1 G1 s1 r1 w1
  refine q2 C fs1 env1 σ H1 (fp1++tf) _ hC G1 ?_
  have po':JbO W C (M1++M2) R2 tf fs env σ H Q ((cr env1).bind fun as env=>.ok (.ow d wb::as) env):=po
  cases e2:cr env1 with
  | err=>rw[e2]at po';exact po'
  | ex x env'=>rw[e2]at po';exact fun cv dd fs' H' G' s=>po' cv dd fs' H' G'.drop (s1.trans (s.weak (fun _ z=>z) fun x hx=>List.mem_append_right _ hx))
  | ok as env2 =>
   rw[e2]at po'
   intro vs fs2 H2 fps ownr G2 s2 r2
   have po2:∀vs fs' H' fps ownr,Good C fs' env2 σ H' (fps.flatten++(ownr++tf))→Step (M1++M2) tf fs env H fs' env2 H'→AOk C H' σ (M1++M2) R2 fs' ownr (.ow d wb::as) vs fps→Q vs H':=po'
   refine po2 (v::vs) fs2 H2 (fp1::fps) ownr (G2.perm ?_) (s1.trans (s2.weak (fun _ z=>z) fun x hx=>List.mem_append_right _ hx)) ?_
   ·rw[List.flatten_cons]
    have:(fps.flatten++(ownr++(fp1++tf))).Perm (fp1++(fps.flatten++(ownr++tf))):=by
     exact((List.perm_append_comm_assoc _ _ _).append_left _).trans (List.perm_append_comm_assoc _ _ _)
    rw[List.append_assoc];exact this.symm
   ·exact⟨v,vs,fp1,fps,rfl,rfl,r1.keep (fun x hx=>s2.t x (List.mem_append_left _ hx)) s2.m,w1.mono JX,r2.mono QI (fun _ z=>z) fun _ z=>z⟩
theorem sr_io (i:Nat) {x:Str} (hr:SR X W M2 R2 es cr) (hN:X.N[i]?=some x:=by rfl) (hv:Vis X.env.scope x:=by first | exact Or.inl rfl | exact Or.inr (Or.inl rfl) | exact Or.inr (Or.inr rfl)) (hd:(x == ("__debug__" : Str))=false:=by decide)
  (hcd:(x == ("__classdict__" : Str))=false:=by decide) (hs:starEach (.Name x pos::es) X.env=(false,eval (.Name x pos) X.env)::starEach es X.env:=by rfl):SR X W ([i]++M2) R2 (.Name x pos::es) (aOw (cMv i) (some i) cr):=by
 obtain⟨t2,p2,q2⟩:=hr.go
 refine ow_go hs (pe_var hN hv hd hcd) p2 (fun C fs env σ H tf Q hC G po=>?_) q2
 cases e1:cMv i env with
 | err=>rw[e1]at po;exact po.elim
 | ex x env'=>unfold cMv at e1;split at e1<;>cases e1
 | ok d env1 =>
  rw[e1]at po
  unfold cMv at e1
  split at e1
  ·rename_i d' e2
   cases e1
   obtain⟨v,e3,r⟩:=G.rep i d e2
   refine⟨v,e3,po v (fs.set i []) H _ (G.mv e2) ⟨fun _ _=>rfl,fun j hj=>?_,fun j hj=>?_,fun _ _ _ _=>rfl,.refl H⟩ r ⟨e3,by simp⟩⟩
   ·rw[JE fs i j [] (G.lt e2),if_neg (by simpa using hj)]
   ·rw[List.getElem?_set,if_neg (by intro z;subst z;simp at hj)]
  ·cases e1
def JH:List AV→List D→Env→Option Env
 | [],[],env=>some env
 | .ro _::as,os,env=>JH as os env
 | .ow _ (some i)::as,o::os,env=>JH as os (env.set i (some o))
 | .ow _ none::as,_::os,env=>JH as os env
 | _,_,_=>none
theorem Qb {Ms Rs:List Nat} {ownr:List Addr} {fsA:FPs} {HA:Hp} (hk:C'.K=C.K) (hm:C'.mg=C.mg) (hl:C'.Lk=C.Lk):∀{avs:List AV} {vs:List V} {fpsA:FPs} {os:List D} {fps:FPs} {fs:FPs} {env env':Env},
  AOk C HA σ Ms Rs fsA ownr avs vs fpsA→OutR C' H (avs.map AV.io) os vs fps→nols os=true→JH avs os env=some env'→Good C fs env σ H (fps.flatten++tf)→∃fs',Good C fs' env' σ H tf∧Step Ms tf fs env H fs' env' H
 | [],vs,fpsA,os,fps,fs,env,env',_,⟨h1,h2⟩,_,hp,G=>by
  subst h1 h2
  simp[JH]at hp;subst hp
  exact⟨fs,by simpa using G,.refl⟩
 | .ro d::as,vs,fpsA,os,fps,fs,env,env',⟨v,vs',fp,fps',e1,e2,r,i,x⟩,ho,hn,hp,G=>by
  subst e1
  obtain⟨w,ws,e3,ho⟩:=ho
  cases e3
  simp only[JH]at hp
  exact Qb hk hm hl x ho hn hp G
 | .ow d none::as,vs,fpsA,os,fps,fs,env,env',⟨v,vs',fp,fps',e1,e2,r,i,x⟩,ho,hn,hp,G=>by
  subst e1
  obtain⟨o,os',w,ws,f,fps2,e3,e4,e5,ro,ho⟩:=ho
  cases e4
  subst e3 e5
  simp only[JH]at hp
  have hn:=Bool.and_eq_true_iff.mp hn
  refine Qb hk hm hl x ho hn.2 hp (G.sub ?_)
  rw[List.flatten_cons,List.append_assoc];exact List.sublist_append_right _ _
 | .ow d (some j)::as,vs,fpsA,os,fps,fs,env,env',⟨v,vs',fp,fps',e1,e2,r,i,x⟩,ho,hn,hp,G=>by
  subst e1
  obtain⟨o,os',w,ws,f,fps2,e3,e4,e5,ro,ho⟩:=ho
  cases e4
  subst e3 e5
  simp only[JH]at hp
  have hn:=Bool.and_eq_true_iff.mp hn
  rw[List.flatten_cons,List.append_assoc]at G
  have ro':=ro.leave hk hm hl hn.1
  have G2:=G.put (i:=j) ro'
  have es:σ.set j (some v)=σ:=by
   obtain⟨h1,h2⟩:=List.getElem?_eq_some_iff.mp i.1
   conv=>rhs;rw[←List.set_getElem_self (as:=σ) (i:=j) h1]
   rw[h2]
  rw[es]at G2
  obtain⟨fs',G3,s3⟩:=Qb hk hm hl x ho hn.2 hp G2
  have s2:=Step.put (i:=j) (d:=o) G
  refine⟨fs',G3,((s2.weak (M':=Ms) (tf':=tf) (fun q hq=>?_) fun x hx=>List.mem_append_right _ hx).trans s3).weak (fun q hq=>(List.mem_append.mp hq).elim id id) fun _ z=>z⟩
  simp at hq;subst hq;exact i.2
theorem good_after {A':List Addr} (G:Good C fs env σ H1 (A'++tf)) (h0:C'.H0=H1) (hA:C'.A=A') (hl:C'.Lk=C.Lk) (f:Fr C' H2) (m:Mono H1 H2):Good C fs env σ H2 tf∧(∀a∈fs.flatten++tf,H2 a=H1 a):=by
 have keep:∀a∈fs.flatten++tf,H2 a=H1 a:=fun a ha=>by
  have ha':a∈fs.flatten++(A'++tf):=by
   rcases List.mem_append.mp ha with z | z
   ·exact List.mem_append_left _ z
   ·exact List.mem_append_right _ (List.mem_append_right _ z)
  obtain⟨o,e,mu⟩:=G.trk a ha'
  have nA:a∉A':=fun hm=>by
   have p:(fs.flatten++(A'++tf)).Perm (A'++(fs.flatten++tf)):=by
    rw[←List.append_assoc,←List.append_assoc];exact List.perm_append_comm.append_right _
   exact(List.nodup_append.mp (p.nodup_iff.mp G.nd)).2.2 a hm a ha rfl
  rcases f a o (by rw[h0];exact e) (by rw[hA];exact nA) with q | ⟨q1,_,ob,q⟩
  ·rw[q,e]
  ·obtain⟨ob2,u,z⟩:=G.lk a (by rw[←hl];exact q1)
   rw[e]at z;cases z;exact mu.elim
 refine⟨⟨G.le,G.lf,fun i d e=>?_,?_,fun a ha=>G.own a ?_,fun a ha=>?_,fun a o e na=>?_,fun a ha=>?_⟩,keep⟩
 ·obtain⟨v,e1,r⟩:=G.rep i d e
  exact⟨v,e1,r.keep (fun a ha=>keep a (List.mem_append_left _ (Yo ha))) m⟩
 ·exact G.nd.sublist ((List.Sublist.refl _).append (List.sublist_append_right _ _))
 ·rcases List.mem_append.mp ha with z | z
  ·exact List.mem_append_left _ z
  ·exact List.mem_append_right _ (List.mem_append_right _ z)
 ·rw[keep a ha]
  refine G.trk a ?_
  rcases List.mem_append.mp ha with z | z
  ·exact List.mem_append_left _ z
  ·exact List.mem_append_right _ (List.mem_append_right _ z)
 ·have nA:a∉A':=fun hm=>by
   rcases G.own a (List.mem_append_right _ (List.mem_append_left _ hm)) with q | q
   ·exact na q
   ·rw[e]at q;cases q
  rcases G.fr a o e na with q | ⟨q1,q2,ob,q⟩
  ·rcases f a o (by rw[h0];exact q) (by rw[hA];exact nA) with z | ⟨z1,z2,z3⟩
   ·exact .inl z
   ·exact .inr ⟨by rw[←hl];exact z1,z2,z3⟩
  ·exact .inr ⟨q1,q2,ob,m.z _ _ _ q⟩
 ·obtain⟨ob,u,e⟩:=G.lk a ha
  exact⟨ob,u,m.z _ _ _ e⟩
theorem good_come {A' fpn:List Addr} (G1:Good C fs env σ H1 (A'++tf)) (G:Good C fs env σ H2 tf) (nd:fpn.Nodup) (hw:∀a∈fpn,a∈A'∨H1 a=none) (tk:∀a∈fpn,∃o,H2 a=some o∧Mutb o):Good C fs env σ H2 (fpn++tf):=by
 have p:(fs.flatten++(fpn++tf)).Perm (fpn++(fs.flatten++tf)):=by
  rw[←List.append_assoc,←List.append_assoc];exact List.perm_append_comm.append_right _
 have p1:(fs.flatten++(A'++tf)).Perm (A'++(fs.flatten++tf)):=by
  rw[←List.append_assoc,←List.append_assoc];exact List.perm_append_comm.append_right _
 refine⟨G.le,G.lf,G.rep,p.nodup_iff.mpr (List.nodup_append.mpr ⟨nd,G.nd,fun a ha b hb e=>?_⟩),fun a ha=>?_,fun a ha=>?_,G.fr,G.lk⟩
 ·subst e
  rcases hw a ha with z | z
  ·exact(List.nodup_append.mp (p1.nodup_iff.mp G1.nd)).2.2 a z a hb rfl
  ·have hb':a∈fs.flatten++(A'++tf):=p1.mem_iff.mpr (List.mem_append_right _ hb)
   obtain⟨o,q,_⟩:=G1.trk a hb'
   rw[z]at q;cases q
 ·rcases List.mem_append.mp (p.mem_iff.mp ha) with z | z
  ·rcases hw a z with w | w
   ·exact G1.own a (p1.mem_iff.mpr (List.mem_append_left _ w))
   ·exact G1.fr.fresh w
  ·exact G.own a z
 ·rcases List.mem_append.mp (p.mem_iff.mp ha) with z | z
  ·exact tk a z
  ·exact G.trk a z
theorem AOk.len {Ms Rs ownr}:∀{avs vs fps},AOk C H σ Ms Rs fs ownr avs vs fps→vs.length=(avs.map AV.io).length
 | [],vs,fps,⟨h,_⟩=>by subst h;rfl
 | .ro d::as,vs,fps,⟨v,vs',fp,fps',e1,e2,r,i,x⟩=>by subst e1;simp[AOk.len x]
 | .ow d wb::as,vs,fps,⟨v,vs',fp,fps',e1,e2,r,i,x⟩=>by subst e1;simp[AOk.len x]
theorem AOk.argR {Ms Rs ownr} (E:Enter C C' H) (hd:∀b,(b∈ownr∨∃r∈Rs,b∈fs.getD r [])→b∉C'.A):∀{avs vs fps},AOk C H σ Ms Rs fs ownr avs vs fps→ArgR C' H (avs.map AV.io) (avs.map AV.d) vs fps
 | [],vs,fps,⟨h1,h2⟩=>⟨rfl,h1,h2⟩
 | .ro d::as,vs,fps,⟨v,vs',fp,fps',e1,e2,r,i,x⟩=>⟨d.lend,_,v,vs',[],fps',rfl,e1,e2,r.lend E (fun b hb=>hd b (i b hb)),.inr rfl,AOk.argR E hd x⟩
 | .ow d wb::as,vs,fps,⟨v,vs',fp,fps',e1,e2,r,i,x⟩=>⟨d,_,v,vs',fp,fps',rfl,e1,e2,r.enter E,.inl rfl,AOk.argR E hd x⟩
theorem OutR.trk:∀{io os vs fps},OutR C H io os vs fps→∀a∈fps.flatten,∃o,H a=some o∧Mutb o
 | [],os,vs,fps,⟨_,h⟩=>by subst h;intro a ha;simp at ha
 | true::bs,os,vs,fps,⟨o,os',v,vs',fp,fps',e1,e2,e3,r,x⟩=>by
  subst e3
  intro a ha
  rw[List.flatten_cons]at ha
  exact(List.mem_append.mp ha).elim (r.trk a) (OutR.trk x a)
 | false::bs,os,vs,fps,⟨v,vs',e,x⟩=>OutR.trk x
def UZ (avs:List AV) (env:Env):FR→R D
 | .ok r os=>if r.nol && nols os then (match JH avs os env with
  | some env'=>.ok r env'
  | none=>.err) else .err
 | .ex x os=>if nols os then (match JH avs os env with
  | some env'=>.ex x env'
  | none=>.err) else .err
 | .err=>.err
def Jo (φ:List D→FR) (cr:Env→R (List AV)):CE:=fun env=>(cr env).bind fun avs env=>UZ avs env (φ (avs.map AV.d))
theorem ExIs.leave {x:Exn} {cv dd} (hk:C'.K=C.K) (hm:C'.mg=C.mg) (hl:C'.Lk=C.Lk) (h:ExIs C' x cv dd H):ExIs C x cv dd H:=by
 obtain⟨Ca,h1,h2,h3⟩:=h
 refine⟨Ca,by rw[←hm];exact h1,h2,?_⟩
 cases q:x.pay with
 | none=>rw[q]at h3;exact h3
 | some fd =>
  rw[q]at h3
  obtain⟨da,v,e1,e2,e3,r⟩:=h3
  exact⟨da,v,e1,e2,e3,r.leave hk hm hl e3⟩
theorem Jcn {io:List Bool} {φ:List D→FR} {t:TA} {E:L2.St→XK}
  (hE:∀σ cls d H,W cls d σ H→E σ cls d H) (hio:∀env avs env',cr env=.ok avs env'→avs.map AV.io=io)
  (q:∀C fs env σ H tf Q,C.At X→Good C fs env σ H tf→JbO W C M Rs tf fs env σ H Q (cr env)→t σ H Q) (hd:djB Rs []=true) :
  ∀C fs env σ H tf Q,C.At X→Good C fs env σ H tf→JY W C M tf fs env σ H Q (Jo φ cr env)→t σ H fun vs H1=>spF X.K X.mg io φ vs H1 Q (E σ):=by
 intro C fs env σ H tf Q hC G po
 refine q C fs env σ H tf _ hC G ?_
 unfold Jo at po
 cases e1:cr env with
 | err=>rw[e1]at po;exact po
 | ex x env'=>rw[e1]at po;exact po
 | ok avs env1 =>
  rw[e1]at po
  intro vs fs1 H1 fps ownr G1 s1 ao
  have hio':=hio env avs env1 e1
  have po1:JY W C M tf fs env σ H Q (UZ avs env1 (φ (avs.map AV.d))):=po
  let C':Ctx:=⟨X.K,X.mg,H1,fps.flatten,C.Lk⟩
  have hk:C'.K=C.K:=hC.1.symm
  have hm:C'.mg=C.mg:=hC.2.symm
  have E1:Enter C C' H1:=⟨hk,hm,rfl,rfl,G1.fr,fun x hx=>⟨G1.own x (List.mem_append_right _ (List.mem_append_left _ hx)),G1.trk x (List.mem_append_right _ (List.mem_append_left _ hx))⟩⟩
  have dis:∀b,(b∈ownr∨∃r∈Rs,b∈fs1.getD r [])→b∉C'.A:=fun b hb hm'=>by
   have nd:=(List.nodup_append.mp G1.nd).2.1
   rcases hb with z | ⟨r,_,z⟩
   ·exact(List.nodup_append.mp nd).2.2 b hm' b (List.mem_append_left _ z) rfl
   ·exact G1.apartT z (List.mem_append_left _ hm')
  have ar:=ao.argR E1 dis
  rw[hio']at ar
  refine⟨C.Lk,avs.map AV.d,fps,by rw[ao.len,hio'],ar,(List.nodup_append.mp (List.nodup_append.mp G1.nd).2.1).1,G1.lk,?_⟩
  have fin:∀{H2:Hp} {os:List D} {fpr:List Addr} {fpso:FPs} {env2:Env},Fr C' H2→Mono H1 H2→OutR C' H2 io os vs fpso→nols os=true→JH avs os env1=some env2→(fpr++fpso.flatten).Nodup→(∀a∈fpr++fpso.flatten,a∈C'.A∨H1 a=none) →
    (∀a∈fpr,∃o,H2 a=some o∧Mutb o)→∃fs2,Good C fs2 env2 σ H2 (fpr++tf)∧Step M tf fs env H fs2 env2 H2:=by
   intro H2 os fpr fpso env2 f m orr hn hp nd hw tk
   obtain⟨G2,keep⟩:=good_after (C':=C') G1 rfl rfl rfl f m
   have G2':Good C fs1 env1 σ H2 tf:=G2.drop
   have G3:Good C fs1 env1 σ H2 ((fpr++fpso.flatten)++(ownr++tf)):=good_come (A':=fps.flatten) G1 G2 nd hw fun a ha=>(List.mem_append.mp ha).elim (tk a) (orr.trk a)
   have G4:Good C fs1 env1 σ H2 (fpso.flatten++(fpr++tf)):=by
    refine (G3.sub (tf':=(fpr++fpso.flatten)++tf) ((List.Sublist.refl _).append (List.sublist_append_right _ _))).perm ?_
    rw[←List.append_assoc];exact List.perm_append_comm.append_right _
   rw[←hio']at orr
   obtain⟨fs2,G5,s5⟩:=Qb (C':=C') hk hm rfl ao orr hn hp G4
   refine⟨fs2,G5,?_⟩
   have s12:Step M tf fs1 env1 H1 fs1 env1 H2:=⟨fun a ha=>keep a (List.mem_append_right _ (List.mem_append_right _ ha)),fun _ _=>rfl,fun _ _=>rfl,fun i _ a ha=>keep a (List.mem_append_left _ (Yo ha)),m⟩
   exact((s1.trans s12).trans (s5.weak (fun _ z=>z) fun x hx=>List.mem_append_right _ hx)).weak (fun i hi=>by
    rcases List.mem_append.mp hi with z | z
    ·exact(List.mem_append.mp z).elim id id
    ·exact z) fun _ z=>z
  cases e2:φ (avs.map AV.d) with
  | err=>rw[e2]at po1;exact po1.elim
  | ok r os =>
   rw[e2]at po1
   simp only[UZ]at po1
   split at po1
   ·rename_i hn
    have hn:=Bool.and_eq_true_iff.mp hn
    cases e3:JH avs os env1 with
    | none=>rw[e3]at po1;exact po1.elim
    | some env2 =>
     rw[e3]at po1
     intro v H2 fpr fpso f m rr orr nd hw
     obtain⟨fs2,G2,s2⟩:=fin f m orr hn.2 e3 nd hw rr.trk
     exact po1 v fs2 H2 fpr G2 s2 (rr.leave hk hm rfl hn.1)
   ·exact po1.elim
  | ex x os =>
   rw[e2]at po1
   simp only[UZ]at po1
   split at po1
   ·rename_i hn
    cases e3:JH avs os env1 with
    | none=>rw[e3]at po1;exact po1.elim
    | some env2 =>
     rw[e3]at po1
     intro cv dd H2 fpso f m hx orr nd hw
     obtain⟨fs2,G2,s2⟩:=fin (fpr:=[]) f m orr hn e3 (by rw[List.nil_append];exact nd) (by rw[List.nil_append];exact hw) fun _ z=>nomatch z
     exact hE σ cv dd H2 (po1 cv dd fs2 H2 (by simpa using G2) s2 (hx.leave hk hm rfl))
   ·exact po1.elim
end
end VS
namespace VS
open PySem L2 SeqAt
structure SRI (X:Cx) (W:WX) (M Rs:List Nat) (io:List Bool) (es:List Expr) (c:Env→R (List AV)):Prop where
 sr:SR X W M Rs es c
 shape:∀env avs env',c env=.ok avs env'→avs.map AV.io=io
theorem R.bind_ok {α β:Type} {r:R α} {f:α→Env→R β} {b:β} {env:Env} (h:r.bind f=.ok b env):∃a env1,r=.ok a env1∧f a env1=.ok b env:=by
 cases r with
 | ok a e=>exact⟨a,e,rfl,h⟩
 | ex x e=>cases h
 | err=>cases h
section
variable {X:Cx} {W:WX} {M M1 M2 M3 V1 V2 V3 Rs R1 R2 R3:List Nat} {e a b c tg:Expr} {es:List Expr} {ca cb cc:CE} {pos p:Pos} {cr:Env→R (List AV)} {io:List Bool}
theorem Jk:SRI X W [] [] [] [] aNil:=⟨sr_nil,fun env avs env' h=>by cases h;rfl⟩
theorem Jl (ha:SB X W M1 R1 a ca) (hr:SRI X W M2 R2 io es cr) (hd:djB R1 M2=true:=by decide) (hs:starEach (a::es) X.env=(false,eval a X.env)::starEach es X.env:=by rfl):SRI X W (M1++M2) (R1++R2) (false::io) (a::es) (aRo ca cr) :=
 ⟨sr_ro ha hr.sr hd hs,fun env avs env' h=>by
  obtain⟨d,e1,h1,h2⟩:=R.bind_ok h
  obtain⟨as,e2,h3,h4⟩:=R.bind_ok h2
  cases h4
  simp[AV.io,hr.shape _ _ _ h3]⟩
theorem ow_shape {wb} (hr:SRI X W M2 R2 io es cr):∀env avs env',aOw ca wb cr env=.ok avs env'→avs.map AV.io=true::io:=fun env avs env' h=>by
 obtain⟨d,e1,h1,h2⟩:=R.bind_ok h
 obtain⟨as,e2,h3,h4⟩:=R.bind_ok h2
 cases h4
 simp[AV.io,hr.shape _ _ _ h3]
theorem sri_io (i:Nat) {x:Str} (hr:SRI X W M2 R2 io es cr) (hN:X.N[i]?=some x:=by rfl) (hv:Vis X.env.scope x:=by first | exact Or.inl rfl | exact Or.inr (Or.inl rfl) | exact Or.inr (Or.inr rfl)) (hd:(x == ("__debug__" : Str))=false:=by decide)
  (hcd:(x == ("__classdict__" : Str))=false:=by decide) (hs:starEach (.Name x pos::es) X.env=(false,eval (.Name x pos) X.env)::starEach es X.env:=by rfl):SRI X W ([i]++M2) R2 (true::io) (.Name x pos::es) (aOw (cMv i) (some i) cr) :=
 ⟨sr_io i hr.sr hN hv hd hcd hs,ow_shape hr⟩
def Fd (P:Program) (w:World) (K:PySem.W.Frag) (mg:Str→Option Value) (base:Heap) (k:Nat) (x:Str) (ps:List Str) (io:List Bool) (φ:List D→FR):Prop :=
 ∃(f:Addr) (fd:FuncData),FnOk P w K mg base (L2.CX P w) k f fd ps (spF K mg io φ)∧mg x=some (.ref f)∧PySem.W.keepIn K (.ref f)=true∧Binds K fd ps []
theorem Jm {k:Nat} {x:Str} {ps:List Str} {φ:List D→FR} {pf:Pos} (F:Fd X.prog X.w X.K X.mg X.base k x ps io φ) (hr:Room k X.A) (tk:Takes X W) (ha:SRI X W M Rs io (e::es) cr) (hg:Gl X x:=by rfl)
  (hdb:(x == ("__debug__" : Str))=false:=by decide) (he:starEach (e::es) X.env=(false,eval e X.env)::starEach es X.env:=by rfl) (hpl:(backTo pos (starEach es X.env)).any (·.1)=false:=by rfl) :
  SO X W M (.Call (.Name x pf) (e::es) [] pos) (Jo φ cr):=by
 obtain⟨f,fd,G,hm,hk,hb⟩:=F
 obtain⟨t,p,q⟩:=ha.sr.go
 refine⟨tCallS (spF X.K X.mg io φ) (WE W) t,pe_callS G hr hg hm hk hb (fun σ=>passAt tk σ) p hdb he hpl,?_⟩
 exact Jcn (E:=WE W) (fun _ _ _ _ h=>h) ha.shape q (by unfold djB;simp)
end
def JbF (K:PySem.W.Frag):Sp:=fun vs H Q _=>∃(a:Addr) (ns:List Int),vs=[.ref a]∧SqL K H a (ns.map V.int)∧ns.length≤63∧(∀z∈ns,Builtin.Int.intBits z≤1048576)∧∀H',Q (.bl true) H'
theorem Ja0 {C:Ctx} {H:Hp}:∀ns:List Int,Reps C H (ns.map D.int) (ns.map V.int) []
 | []=>⟨rfl,rfl⟩
 | n::ns=>⟨.int n,ns.map V.int,[],[],rfl,⟨rfl,rfl⟩,Ja0 ns,rfl⟩
theorem ZE {P:Program} {w:World} {K:PySem.W.Frag} {mg:Str→Option Value} {base:Heap} {k:Nat} {x:Str} {st:Stmt} {f:Addr} {fd:FuncData} {ps:List Str} {io:List Bool} {φ:List D→FR} (F:Fun K x x st f fd) (hm:mg x=some (.ref f)) (hb:Binds K fd ps [])
  (h:FnOk P w K mg base (L2.CX P w) k f fd ps (spF K mg io φ)):Fd P w K mg base k x ps io φ:=⟨f,fd,h,hm,F.kp,hb⟩
theorem Fd.mono {P:Program} {w:World} {K:PySem.W.Frag} {mg:Str→Option Value} {base:Heap} {j k:Nat} {x:Str} {ps:List Str} {io:List Bool} {φ:List D→FR} (F:Fd P w K mg base j x ps io φ) (h:j≤k):Fd P w K mg base k x ps io φ :=
 let ⟨f,fd,G,a,b,c⟩:=F
 ⟨f,fd,G.mono h,a,b,c⟩
end VS
namespace VS
open PySem L2 SeqAt
structure Foc (C:Ctx) (H:Hp) (d:D) (v:V) (g1:List Addr) (d':D) (v':V) (fp' g2:List Addr) (F:D→D):Prop where
 here:Rep C H d' v' fp'
 back:∀H' d'' fp'',Mono H H'→(∀a∈g1++g2,H' a=H a)→Rep C H' d'' v' fp''→Rep C H' (F d'') v (g1++fp''++g2)
def JcF (W:WX) (C:Ctx) (i:Nat) (M:List Nat) (tf:List Addr) (fs:FPs) (env:Env) (σ:St) (H:Hp) (Q:VK):R (D × (D→D))→Prop
 | .ok dF env'=>∀v' fs' H' d v g1 fp' g2,Good C fs' env' σ H' tf→Step M tf fs env H fs' env' H'→env'[i]?=some (some d)→σ[i]?=some (some v)→fs'.getD i []=g1++fp'++g2→Foc C H' d v g1 dF.1 v' fp' g2 dF.2→Q v' H'
 | .ex x env'=>∀cv dd fs' H',Good C fs' env' σ H' tf→Step M tf fs env H fs' env' H'→ExIs C x cv dd H'→W cv dd σ H'
 | .err=>False
abbrev CL:=Env→R (D × (D→D))
structure SL (X:Cx) (W:WX) (i:Nat) (M:List Nat) (e:Expr) (c:CL):Prop where
 go:∃t,PE X e t∧∀C fs env σ H tf Q,C.At X→Good C fs env σ H tf→JcF W C i M tf fs env σ H Q (c env)→t σ H Q
section
variable {X:Cx} {W:WX} {M M1 M2 M3 V1 V2 V3 Rs R1 R2 R3:List Nat} {e a b c tg o:Expr} {es:List Expr} {ca cb cc:CE} {cs:CA} {pos p:Pos} {cl:CL} {i:Nat}
variable {pins:List (Addr × Obj)} {σ:St} {H H1 H2 H':Hp} {s:Shared} {C C':Ctx} {fs fs1 fs2:FPs} {env env1 env2:Env} {tf tf' own:List Addr}
theorem Jby {d v fp} (r:Rep C H d v fp):Foc C H d v [] d v fp [] id:=⟨r,fun H' d'' fp'' _ _ r'=>by simpa using r'⟩
theorem Foc.keep {d v g1 d' v' fp' g2 F} (f:Foc C H d v g1 d' v' fp' g2 F) (m:Mono H H') (k:∀a∈g1++fp'++g2,H' a=H a):Foc C H' d v g1 d' v' fp' g2 F :=
 ⟨f.here.keep (fun a ha=>k a (by simp[ha])) m,fun H2 d'' fp'' m2 k2 r=>f.back H2 d'' fp'' (m.trans m2) (fun a ha=>(k2 a ha).trans (k a (by
  rcases List.mem_append.mp ha with z | z<;>simp[z]))) r⟩
theorem Foc.comp {d v g1 d1 v1 fp1 g2 F h1 d2 v2 fp2 h2 G} (f:Foc C H d v g1 d1 v1 fp1 g2 F) (g:Foc C H d1 v1 h1 d2 v2 fp2 h2 G) (e:fp1=h1++fp2++h2):Foc C H d v (g1++h1) d2 v2 fp2 (h2++g2) (F∘G):=by
 refine⟨g.here,fun H' d'' fp'' m k r=>?_⟩
 have r1:=g.back H' d'' fp'' m (fun a ha=>k a (by rcases List.mem_append.mp ha with z | z<;>simp[z])) r
 have r2:=f.back H' (G d'') _ m (fun a ha=>k a (by rcases List.mem_append.mp ha with z | z<;>simp[z])) r1
 simpa [List.append_assoc] using r2
theorem UI:∀{ds:List D} {vs:List V} {fp:List Addr} {j:Nat} {x:D},Reps C H ds vs fp→ds[j]?=some x→∃w g1 f g2,vs[j]?=some w∧Rep C H x w f∧fp=g1++f++g2 ∧
  ∀H' y w' f',Mono H H'→(∀a∈g1++g2,H' a=H a)→Rep C H' y w' f'→Reps C H' (ds.set j y) (vs.set j w') (g1++f'++g2)
 | [],vs,fp,j,x,_,h=>by simp at h
 | d::ds,vs,fp,0,x,⟨v,vs',f1,f2,e,r,rs,e2⟩,h=>by
  simp at h;subst h;subst e
  refine⟨v,[],f1,f2,by simp,r,by simpa using e2,fun H' y w' f' m k r'=>?_⟩
  exact⟨w',vs',f',f2,rfl,r',rs.keep (fun a ha=>k a (by simp[ha])) m,by simp⟩
 | d::ds,vs,fp,j+1,x,⟨v,vs',f1,f2,e,r,rs,e2⟩,h=>by
  subst e
  obtain⟨w,g1,f,g2,h1,h2,h3,h4⟩:=UI (j:=j) rs (by simpa using h)
  refine⟨w,f1++g1,f,g2,by simpa using h1,h2,by rw[e2,h3];simp[List.append_assoc],fun H' y w' f' m k r'=>?_⟩
  exact⟨v,_,f1,g1++f'++g2,rfl,r.keep (fun a ha=>k a (by simp[ha])) m,h4 H' y w' f' m (fun a ha=>k a (by rcases List.mem_append.mp ha with z | z<;>simp[z])) r',by simp[List.append_assoc]⟩
def idxK:List Key→Key→Option Nat
 | [],_=>none
 | k0::ks,k=>if k0=k then some 0 else (idxK ks k).map (·+1)
theorem Qc:∀{kvs:List (Key × V)} {k:Key} {j:Nat},idxK (kvs.map (·.1)) k=some j→valV kvs k=(kvs[j]?).map (·.2)∧j < kvs.length
 | [],k,j,h=>by simp[idxK]at h
 | kv::kvs,k,j,h=>by
  simp only[List.map_cons,idxK]at h
  by_cases e:kv.1=k
  ·rw[if_pos e]at h;cases h
   exact⟨by rw[valV_pos e];simp,by simp⟩
  ·rw[if_neg e]at h
   obtain⟨j',h',rfl⟩:=Option.map_eq_some_iff.mp h
   obtain⟨h1,h2⟩:=Qc h'
   exact⟨by rw[valV_neg e,h1];simp,by simp;omega⟩
theorem Jai:∀{kvs:List (Key × V)} {k:Key},idxK (kvs.map (·.1)) k=none→valV kvs k=none
 | [],k,h=>rfl
 | kv::kvs,k,h=>by
  simp only[List.map_cons,idxK]at h
  by_cases e:kv.1=k
  ·rw[if_pos e]at h;cases h
  ·rw[if_neg e]at h
   rw[valV_neg e]
   exact Jai (by simpa using h)
theorem QC:∀{kvs:List (Key × V)} {k:Key} {j:Nat} {v:V},(kvs.map (·.1)).Nodup→idxK (kvs.map (·.1)) k=some j→putK kvs k v=kvs.set j (k,v)
 | [],k,j,v,_,h=>by simp[idxK]at h
 | kv::kvs,k,j,v,nd,h=>by
  have h0:=h
  simp only[List.map_cons,idxK]at h
  simp only[List.map_cons,List.nodup_cons]at nd
  by_cases e:kv.1=k
  ·rw[if_pos e]at h;cases h
   unfold putK
   have:((kv::kvs).any fun kv=>decide (kv.1=k))=true:=by simp[e]
   rw[if_pos this]
   simp only[List.map_cons,List.set_cons_zero]
   rw[if_pos e,e]
   congr 1
   have key:∀x∈kvs,(if x.1=k then (x.1,v) else x)=x:=fun x hx=>by
    have:¬ x.1=k:=fun z=>nd.1 (List.mem_map.mpr ⟨x,hx,z.trans e.symm⟩)
    rw[if_neg this]
   rw[List.map_congr_left key];simp
  ·rw[if_neg e]at h
   obtain⟨j',h',rfl⟩:=Option.map_eq_some_iff.mp h
   have ih:=QC (v:=v) nd.2 h'
   have hv:=Qc h'
   unfold putK at ih ⊢
   have a1:(kvs.any fun kv=>decide (kv.1=k))=true:=by
    rw[valV_any,hv.1,List.getElem?_eq_getElem hv.2];rfl
   have a2:((kv::kvs).any fun kv=>decide (kv.1=k))=true:=by simp[a1]
   rw[if_pos a1]at ih
   rw[if_pos a2]
   simp only[List.map_cons,List.set_cons_succ]
   rw[if_neg e,ih]
def lVar (i:Nat):CL:=fun env=>match env[i]? with
 | some (some d)=>.ok (d,id) env
 | _=>.err
theorem YS (i:Nat) {x:Str} (hN:X.N[i]?=some x:=by rfl) (hv:Vis X.env.scope x:=by first | exact Or.inl rfl | exact Or.inr (Or.inl rfl) | exact Or.inr (Or.inr rfl)) (hd:(x == ("__debug__" : Str))=false:=by decide)
  (hcd:(x == ("__classdict__" : Str))=false:=by decide):SL X W i [] (.Name x pos) (lVar i):=by
 refine⟨tVar i,pe_var hN hv hd hcd,fun C fs env σ H tf Q hC G po=>?_⟩
 unfold lVar at po
 split at po
 ·rename_i d e1
  obtain⟨v,e2,r⟩:=G.rep i d e1
  exact⟨v,e2,po v fs H d v [] (fs.getD i []) [] G .refl e1 e2 (by simp) (Jby r)⟩
 ·exact po.elim
def kidD:D→D→Option (D × (D→D))
 | .lst .m ds,.int k=>(ixN ds.length k).bind fun j=>(ds[j]?).map fun x=>(x,fun y=>.lst .m (ds.set j y))
 | .dct .m ks ds,k=>k.key.bind fun k=>(idxK ks k).bind fun j=>(ds[j]?).map fun x=>(x,fun y=>.dct .m ks (ds.set j y))
 | _,_=>none
def lIdx (cl:CL) (cb:CE):CL:=fun env=>(cl env).bind fun dF env=>(cb env).bind fun y env=>match kidD dF.1 y with
 | some (x,G)=>.ok (x,dF.2∘G) env
 | none=>.err
theorem foc_kid {d y x:D} {G:D→D} {v w:V} {fp fw} (hC:C.At X) (hF:Fr C H) (r:Rep C H d v fp) (ry:Rep C H y w fw) (h:kidD d y=some (x,G)) :
  ∃v' g1 fp' g2,fp=g1++fp'++g2∧Foc C H d v g1 x v' fp' g2 G∧∀Q:VK,Q v' H→(rIx X.K v w H Q∨rIxD v w H Q):=by
 unfold kidD at h
 split at h
 ·rename_i ds k
  obtain⟨j,hj,h⟩:=Option.bind_eq_some_iff.mp h
  obtain⟨x',hx,h⟩:=Option.map_eq_some_iff.mp h
  cases h
  have r0:=r
  obtain⟨a,vs,f1,f2,rfl,⟨hH,rfl⟩,rs,_,rfl⟩:=r
  obtain⟨rfl,_⟩:=ry
  obtain⟨w',g1,f,g2,h1,h2,h3,h4⟩:=UI rs hx
  refine⟨w',a::g1,f,g2,by rw[h3];simp,⟨h2,fun H' y f' m k' r'=>?_⟩,fun Q q=>.inl (.inl ⟨a,vs,k,w',rfl,rfl,SqL.of hH,?_,q⟩)⟩
  ·have hs:=h4 H' y w' f' m (fun b hb=>k' b (by simp at hb ⊢;rcases hb with z | z<;>simp[z])) r'
   have e:vs.set j w'=vs:=by
    obtain⟨q1,q2⟩:=List.getElem?_eq_some_iff.mp h1
    conv=>rhs;rw[←List.set_getElem_self (as:=vs) (i:=j) q1]
    rw[q2]
   rw[e]at hs
   exact⟨a,vs,[a],_,rfl,⟨by rw[k' a (by simp)];exact hH,rfl⟩,hs,.inl rfl,by simp⟩
  ·unfold atI
   rw[←Je rs,hj];exact h1
 ·rename_i ks ds _
  obtain⟨ky,hk,h⟩:=Option.bind_eq_some_iff.mp h
  obtain⟨j,hj,h⟩:=Option.bind_eq_some_iff.mp h
  obtain⟨x',hx,h⟩:=Option.map_eq_some_iff.mp h
  cases h
  obtain⟨a,kvs,f1,f2,rfl,⟨hH,rfl⟩,hks,rs,_,rfl⟩:=r
  obtain⟨w',g1,f,g2,h1,h2,h3,h4⟩:=UI rs hx
  have ey:=ZJ hk ry
  have hks0:=hks
  rw[←hks.1]at hj
  obtain⟨hv1,hv2⟩:=Qc hj
  have hw:valV kvs ky=some w':=by rw[hv1];rw[List.getElem?_map]at h1;exact h1
  refine⟨w',a::g1,f,g2,by rw[h3];simp,⟨h2,fun H' y f' m k' r'=>?_⟩,fun Q q=>.inr ⟨a,w',rfl,.inl ⟨kvs,ky,.inl hH,ey,hw.symm⟩,q⟩⟩
  have hs:=h4 H' y w' f' m (fun b hb=>k' b (by simp at hb ⊢;rcases hb with z | z<;>simp[z])) r'
  have e:(kvs.map (·.2)).set j w'=kvs.map (·.2):=by
   obtain⟨q1,q2⟩:=List.getElem?_eq_some_iff.mp h1
   conv=>rhs;rw[←List.set_getElem_self (as:=kvs.map (·.2)) (i:=j) q1]
   rw[q2]
  rw[e]at hs
  exact⟨a,kvs,[a],_,rfl,⟨by rw[k' a (by simp)];exact hH,rfl⟩,hks,hs,.inl rfl,by simp⟩
 ·cases h
theorem sl_idx {k:Nat} (hr:Room k X.A) (ha:SL X W i M1 a cl) (hb:SB X W M2 R2 b cb) (hs:PlainIx b:=by exact fun _ _=>rfl) (hi:djB [i] M2=true:=by decide):SL X W i (M1++M2) (.Subscript a b pos) (lIdx cl cb):=by
 obtain⟨t,p,q⟩:=ha.go
 obtain⟨t2,p2,q2⟩:=hb.go
 refine⟨tOp (fun x y H Q=>rIx X.K x y H Q∨rIxD x y H Q) t t2,pe_ix (ix_seq.or (Jcq hr)) p p2 hs,fun C fs env σ H tf Q hC G po=>?_⟩
 refine q C fs env σ H tf _ hC G ?_
 unfold lIdx at po
 cases e1:cl env with
 | err=>rw[e1]at po;exact po
 | ex x env'=>rw[e1]at po;exact fun cv dd fs' H' G' s=>po cv dd fs' H' G' (s.weak JX fun _ z=>z)
 | ok dF env1 =>
  rw[e1]at po
  intro v' fs1 H1 d v g1 fp' g2 G1 s1 hd hv hf Fo
  refine q2 C fs1 env1 σ H1 tf _ hC G1 ?_
  have po1:JcF W C i (M1++M2) tf fs env σ H Q ((cb env1).bind fun y env=>match kidD dF.1 y with
   | some (x,G)=>.ok (x,dF.2∘G) env
   | none=>.err):=po
  cases e2:cb env1 with
  | err=>rw[e2]at po1;exact po1
  | ex x env'=>rw[e2]at po1;exact fun cv dd fs' H' G' s=>po1 cv dd fs' H' G' (s1.trans s)
  | ok y env2 =>
   rw[e2]at po1
   intro w fs2 H2 fw own G2 s2 rw' iw
   have ni:i∉M2:=Yv hi i (by simp)
   have Fo2:=Fo.keep s2.m (fun a ha=>s2.h i ni a (by rw[hf];exact ha))
   have po2:JcF W C i (M1++M2) tf fs env σ H Q (match kidD dF.1 y with
    | some (x,G)=>.ok (x,dF.2∘G) env2
    | none=>.err):=po1
   cases e3:kidD dF.1 y with
   | none=>rw[e3]at po2;exact po2.elim
   | some xG =>
    rw[e3]at po2
    obtain⟨x,Gf⟩:=xG
    obtain⟨v2,h1,f2,h2,ef,F2,rd⟩:=foc_kid hC G2.fr Fo2.here rw' e3
    refine rd Q ?_
    refine po2 v2 fs2 H2 d v (g1++h1) f2 (h2++g2) G2.drop (s1.trans s2) (by rw[s2.e i ni];exact hd) hv ?_ (Fo2.comp F2 ef)
    rw[s2.f i ni,hf,ef];simp[List.append_assoc]
theorem Good.mut {d v g1 d' v' fp' g2 F d'' fp'' fx} (G:Good C fs env σ H (fx++tf)) (e1:env[i]?=some (some d)) (e2:σ[i]?=some (some v)) (e3:fs.getD i []=g1++fp'++g2) (Fo:Foc C H d v g1 d' v' fp' g2 F)
  (m:Mono H H') (ch:∀a o,H a=some o→a∉fp'→H' a=some o) (r:Rep C H' d'' v' fp'') (nd:(fp''++tf').Nodup) (sub:∀a∈fp''++tf',a∈fp'∨a∈fx++tf∨H a=none) (tk:∀a∈tf',∃o,H' a=some o∧Mutb o) :
  Good C (fs.set i (g1++fp''++g2)) (env.set i (some (F d''))) σ H' tf':=by
 have hl:=G.lt e1
 have hle:i < env.length:=by rw[G.le,←G.lf];exact hl
 have p0:=Yy fs hl
 have stay:∀a,(a∈g1++g2∨a∈(fs.set i []).flatten)→a∉fp'∧a∉fx++tf∧∃o,H a=some o∧Mutb o:=by
  intro a ha
  have hm:a∈fs.flatten:=by
   rcases ha with z | z
   ·refine p0.mem_iff.mpr (List.mem_append_left _ ?_)
    rw[e3];rcases List.mem_append.mp z with z | z<;>simp[z]
   ·exact p0.mem_iff.mpr (List.mem_append_right _ z)
  refine⟨fun hx=>?_,fun hx=>(List.nodup_append.mp G.nd).2.2 a hm a hx rfl,G.trk a (List.mem_append_left _ hm)⟩
  have nd1:=p0.nodup_iff.mp (List.nodup_append.mp G.nd).1
  rw[e3]at nd1
  rcases ha with z | z
  ·have:=(List.nodup_append.mp nd1).1
   have pp:(g1++fp'++g2).Perm (fp'++(g1++g2)):=by
    rw[List.append_assoc];exact List.perm_append_comm_assoc _ _ _
   exact(List.nodup_append.mp (pp.nodup_iff.mp this)).2.2 a hx a z rfl
  ·exact(List.nodup_append.mp nd1).2.2 a (by simp[hx]) a z rfl
 have keep:∀a,(a∈g1++g2∨a∈(fs.set i []).flatten)→H' a=H a:=fun a ha=>by
  obtain⟨h1,_,o,e,_⟩:=stay a ha
  rw[e];exact ch a o e h1
 have p1:=Qa fs hl (g1++fp''++g2)
 have pt:((fs.set i (g1++fp''++g2)).flatten++tf').Perm ((g1++g2)++(fs.set i []).flatten++(fp''++tf')):=by
  refine (p1.append_right tf').trans ?_
  have a1:(g1++fp''++g2).Perm ((g1++g2)++fp''):=by
   rw[List.append_assoc,List.append_assoc];exact List.perm_append_comm.append_left g1
  refine ((a1.append_right _).append_right _).trans ?_
  simp only[List.append_assoc]
  refine List.Perm.append_left _ (List.Perm.append_left _ ?_)
  exact List.perm_append_comm_assoc _ _ _
 refine⟨by simpa using G.le,by simpa using G.lf,fun j dj ej=>?_,pt.nodup_iff.mpr (List.nodup_append.mpr ⟨?_,nd,fun a ha b hb eab=>?_⟩),fun a ha=>?_,fun a ha=>?_,?_,fun a ha=>?_⟩
 ·rw[List.getElem?_set]at ej
  by_cases hj:i=j
  ·subst hj
   simp[hle]at ej;subst ej
   refine⟨v,e2,?_⟩
   rw[JE fs i i _ hl,if_pos rfl]
   exact Fo.back H' d'' fp'' m (fun a ha=>keep a (.inl ha)) r
  ·rw[if_neg hj]at ej
   obtain⟨w,h1,h2⟩:=G.rep j dj ej
   refine⟨w,h1,?_⟩
   rw[JE fs i j _ hl,if_neg (Ne.symm hj)]
   refine h2.keep (fun a ha=>keep a (.inr ?_)) m
   have:a∈(fs.set i []).getD j []:=by rw[JE fs i j _ hl,if_neg (Ne.symm hj)];exact ha
   exact Yo this
 ·have nd1:=p0.nodup_iff.mp (List.nodup_append.mp G.nd).1
  rw[e3]at nd1
  refine nd1.sublist ?_
  refine List.Sublist.append ?_ (List.Sublist.refl _)
  exact List.Sublist.append (List.sublist_append_left _ _) (List.Sublist.refl _)
 ·subst eab
  obtain⟨h1,h2,o,e,_⟩:=stay a (List.mem_append.mp ha)
  rcases sub a hb with z | z | z
  ·exact h1 z
  ·exact h2 z
  ·rw[z]at e;cases e
 ·have:=pt.mem_iff.mp ha
  rcases List.mem_append.mp this with z | z
  ·rcases List.mem_append.mp z with z | z
   ·refine G.own a (List.mem_append_left _ (p0.mem_iff.mpr (List.mem_append_left _ ?_)))
    rw[e3];rcases List.mem_append.mp z with z | z<;>simp[z]
   ·exact G.own a (List.mem_append_left _ (p0.mem_iff.mpr (List.mem_append_right _ z)))
  ·rcases sub a z with w | w | w
   ·refine G.own a (List.mem_append_left _ (p0.mem_iff.mpr (List.mem_append_left _ ?_)))
    rw[e3];simp[w]
   ·exact G.own a (List.mem_append_right _ w)
   ·exact G.fr.fresh w
 ·have:=pt.mem_iff.mp ha
  rcases List.mem_append.mp this with z | z
  ·obtain⟨_,_,o,e,mu⟩:=stay a (List.mem_append.mp z)
   exact⟨o,by rw[keep a (List.mem_append.mp z)];exact e,mu⟩
  ·rcases List.mem_append.mp z with z | z
   ·exact r.trk a z
   ·exact tk a z
 ·intro a o e na
  rcases G.fr a o e na with q | ⟨q1,q2,ob,q⟩
  ·refine .inl (ch a o q fun hx=>?_)
   have:a∈fs.flatten:=p0.mem_iff.mpr (List.mem_append_left _ (by rw[e3];simp[hx]))
   rcases G.own a (List.mem_append_left _ this) with w | w
   ·exact na w
   ·rw[e]at w;cases w
  ·exact .inr ⟨q1,q2,ob,m.z _ _ _ q⟩
 ·obtain⟨ob,u,e⟩:=G.lk a ha
  exact⟨ob,u,m.z _ _ _ e⟩
theorem Step.mut {d:D} {g1 fp' g2 fx:List Addr} {dn:D} {fn:List Addr} (G:Good C fs env σ H (fx++tf)) (e1:env[i]?=some (some d)) (e3:fs.getD i []=g1++fp'++g2)
  (m:Mono H H') (ch:∀a o,H a=some o→a∉fp'→H' a=some o):Step [i] tf fs env H (fs.set i fn) (env.set i (some dn)) H':=by
 have hl:=G.lt e1
 have inf:∀a∈fp',a∈fs.getD i []:=fun a ha=>by rw[e3];simp[ha]
 refine⟨fun a ha=>?_,fun j hj=>?_,fun j hj=>?_,fun j hj a ha=>?_,m⟩
 ·obtain⟨o,e,_⟩:=G.trk a (by simp[ha])
  rw[e];exact ch a o e fun hx=>G.apartT (inf a hx) (by simp[ha])
 ·rw[JE fs i j _ hl,if_neg (by simpa using hj)]
 ·rw[List.getElem?_set,if_neg (by intro z;subst z;simp at hj)]
 ·obtain⟨o,e,_⟩:=G.trk a (List.mem_append_left _ (Yo ha))
  rw[e];exact ch a o e fun hx=>G.apart (by simpa using hj) ha (inf a hx)
structure MuOk (X:Cx) (T:String) (r:V→List V→Hp→VK→Prop) (kd:D→Bool) (mp:D→List D→Option (D × D)):Prop where
 run:∀C H v d fp vs ds fpa Q d' res,C.At X→Fr C H→Rep C H d v fp→Reps C H ds vs fpa→(fp++fpa).Nodup→mp d ds=some (d',res) →
  (∀H' w fp' fpr,Mono H H'→(∀a o,H a=some o→a∉fp→H' a=some o)→Rep C H' d' v fp'→Rep C H' res w fpr→(fp'++fpr).Nodup→(∀a∈fp'++fpr,a∈fp∨a∈fpa∨H a=none)→Q w H')→r v vs H Q
 ty:∀C H v d fp,C.At X→Fr C H→Rep C H d v fp→kd d=true→tyV X.K T v H
def cMut (i:Nat) (kd:D→Bool) (mp:D→List D→Option (D × D)) (cl:CL) (cs:CA):CE:=fun env=>(cl env).bind fun dF env=>if kd dF.1 then (cs env).bind fun ds env=>match mp dF.1 ds with
 | some dr=>.ok dr.2 (env.set i (some (dF.2 dr.1)))
 | none=>.err
 else .err
theorem mut_go {T:String} {r:V→List V→Hp→VK→Prop} {kd:D→Bool} {mp:D→List D→Option (D × D)} (mu:MuOk X T r kd mp) {t:TE} {t2:TA} (hi:djB [i] M2=true)
  (q:∀C fs env σ H tf Q,C.At X→Good C fs env σ H tf→JcF W C i M1 tf fs env σ H Q (cl env)→t σ H Q)
  (q2:∀C fs env σ H tf Q,C.At X→Good C fs env σ H tf→Jbq W C M2 tf fs env σ H Q (cs env)→t2 σ H Q) {tt:TE}
  (htt:∀σ H Q,(t σ H fun x H1=>(tyV X.K T x H1∧t2 σ H1 fun xs H2=>r x xs H2 Q))→tt σ H Q) :
  ∀C fs env σ H tf Q,C.At X→Good C fs env σ H tf→JY W C (M1++(M2++[i])) tf fs env σ H Q (cMut i kd mp cl cs env)→tt σ H Q:=by
 intro C fs env σ H tf Q hC G po
 refine htt σ H Q (q C fs env σ H tf _ hC G ?_)
 unfold cMut at po
 cases e1:cl env with
 | err=>rw[e1]at po;exact po
 | ex x env'=>rw[e1]at po;exact fun cv dd fs' H' G' s=>po cv dd fs' H' G' (s.weak JX fun _ z=>z)
 | ok dF env1 =>
  rw[e1]at po
  intro v' fs1 H1 d v g1 fp' g2 G1 s1 hd hv hf Fo
  have po0:JY W C (M1++(M2++[i])) tf fs env σ H Q (if kd dF.1 then (cs env1).bind fun ds env=>match mp dF.1 ds with
   | some dr=>.ok dr.2 (env.set i (some (dF.2 dr.1)))
   | none=>.err
   else .err):=po
  split at po0
  case isFalse=>exact po0.elim
  rename_i hkd
  refine⟨mu.ty C H1 v' dF.1 fp' hC G1.fr Fo.here hkd,?_⟩
  refine q2 C fs1 env1 σ H1 tf _ hC G1 ?_
  have po1:JY W C (M1++(M2++[i])) tf fs env σ H Q ((cs env1).bind fun ds env=>match mp dF.1 ds with
   | some dr=>.ok dr.2 (env.set i (some (dF.2 dr.1)))
   | none=>.err):=po0
  cases e2:cs env1 with
  | err=>rw[e2]at po1;exact po1
  | ex x env'=>rw[e2]at po1;exact fun cv dd fs' H' G' s=>po1 cv dd fs' H' G' ((s1.trans s).weak (fun i hi=>by
    rcases List.mem_append.mp hi with z | z<;>simp[z]) fun _ z=>z)
  | ok ds env2 =>
   rw[e2]at po1
   intro vs fs2 H2 fpa G2 s2 ra
   have ni:i∉M2:=Yv hi i (by simp)
   have Fo2:=Fo.keep s2.m (fun a ha=>s2.h i ni a (by rw[hf];exact ha))
   have hd2:env2[i]?=some (some d):=by rw[s2.e i ni];exact hd
   have hf2:fs2.getD i []=g1++fp'++g2:=by rw[s2.f i ni];exact hf
   have po2:JY W C (M1++(M2++[i])) tf fs env σ H Q (match mp dF.1 ds with
    | some dr=>.ok dr.2 (env2.set i (some (dF.2 dr.1)))
    | none=>.err):=po1
   cases e3:mp dF.1 ds with
   | none=>rw[e3]at po2;exact po2.elim
   | some dr =>
    rw[e3]at po2
    obtain⟨d',res⟩:=dr
    have inf:∀a∈fp',a∈fs2.getD i []:=fun a ha=>by rw[hf2];simp[ha]
    have ndp:(fp'++fpa).Nodup:=by
     have nd:=G2.nd
     refine List.nodup_append.mpr ⟨?_,(List.nodup_append.mp (List.nodup_append.mp nd).2.1).1,fun a ha b hb eab=>?_⟩
     ·have:=(List.nodup_append.mp nd).1
      have:=(Yy fs2 (G2.lt hd2)).nodup_iff.mp this
      have:=(List.nodup_append.mp this).1
      rw[hf2]at this
      exact(List.nodup_append.mp (List.nodup_append.mp this).1).2.1
     ·subst eab;exact G2.apartT (inf a ha) (by simp[hb])
    refine mu.run C H2 v' dF.1 fp' vs ds fpa Q d' res hC G2.fr Fo2.here ra ndp e3 fun H3 w fp3 fpr m3 ch r3 rr nd3 sub3=>?_
    have tfk:∀a∈tf,H3 a=H2 a:=fun a ha=>by
     obtain⟨o,e,_⟩:=G2.trk a (by simp[ha])
     rw[e];exact ch a o e fun hx=>G2.apartT (inf a hx) (by simp[ha])
    have Gn:Good C (fs2.set i (g1++fp3++g2)) (env2.set i (some (dF.2 d'))) σ H3 (fpr++tf):=by
     refine G2.mut hd2 hv hf2 Fo2 m3 ch r3 ?_ ?_ ?_
     ·rw[←List.append_assoc]
      refine List.nodup_append.mpr ⟨nd3,(List.nodup_append.mp (List.nodup_append.mp G2.nd).2.1).2.1,fun a ha b hb eab=>?_⟩
      subst eab
      rcases sub3 a ha with z | z | z
      ·exact G2.apartT (inf a z) (by simp[hb])
      ·exact(List.nodup_append.mp (List.nodup_append.mp G2.nd).2.1).2.2 a z a hb rfl
      ·obtain⟨o,e,_⟩:=G2.trk a (by simp[hb])
       rw[z]at e;cases e
     ·intro a ha
      rw[←List.append_assoc]at ha
      rcases List.mem_append.mp ha with z | z
      ·rcases sub3 a z with w | w | w
       ·exact .inl w
       ·exact .inr (.inl (by simp[w]))
       ·exact .inr (.inr w)
      ·exact .inr (.inl (by simp[z]))
     ·intro a ha
      rcases List.mem_append.mp ha with z | z
      ·exact rr.trk a z
      ·rw[tfk a z];exact G2.trk a (by simp[z])
    have sn:Step [i] tf fs2 env2 H2 (fs2.set i (g1++fp3++g2)) (env2.set i (some (dF.2 d'))) H3:=Step.mut (d:=d) G2 hd2 hf2 m3 ch
    exact po2 w _ H3 fpr Gn (by
     have:=(s1.trans s2).trans sn
     rw[List.append_assoc]at this;exact this) rr
variable {T id:String} {name:Str} {apos cpos:Pos} {r:V→List V→Hp→VK→Prop} {kd:D→Bool} {mp:D→List D→Option (D × D)} {e1':Expr}
theorem Jca (mu:MuOk X T r kd mp) (pa:PlainAttrs T) (slot:Slot T name id) (hty:typeOf (.builtin id)=pure (.type "method_descriptor")) (hm:MtR X id r) (ho:SL X W i M1 o cl) (ha:SAO X W M2 (e::es) cs)
  (hi:djB [i] M2=true:=by decide) (hbase:attributeBase o name X.env (eval o X.env)=eval o X.env:=by rfl)
  (hfew:((backTo cpos (starEach (e::es) X.env)).all (fun x=>!x.1) && (backToKw cpos (keywordEach [] X.env)).all (fun x=>x.1.isSome)
   && decide ((e::es).length+([]:List Keyword).length+(if ([]:List Keyword).isEmpty then 0 else 1) < 30))=true:=by rfl)
  (hline:(apos.endLine == cpos.line)=true:=by rfl) (hs:starEach (e::es) X.env=(false,eval e X.env)::starEach es X.env:=by rfl) (hplain:(backTo cpos (starEach es X.env)).any (·.1)=false:=by rfl) :
  SO X W (M1++(M2++[i])) (.Call (.Attribute o name apos) (e::es) [] cpos) (cMut i kd mp cl cs):=by
 obtain⟨t,p,q⟩:=ho.go
 obtain⟨t2,p2,q2⟩:=ha.go
 exact⟨tBM X.K T r t t2,pe_bm pa slot hty hm p p2 hbase hfew hline hs hplain,mut_go mu hi q q2 fun σ H Q h=>h⟩
def kdL:D→Bool
 | .lst .m _=>true
 | _=>false
theorem kdL_inv {d:D} (h:kdL d=true):∃ds,d=.lst .m ds:=by
 unfold kdL at h
 split at h
 ·exact⟨_,rfl⟩
 ·cases h
theorem JcC:∀C H v d fp,C.At X→Fr C H→Rep C H d v fp→kdL d=true→tyV X.K "list" v H:=by
 intro C H v d fp hC hF r h
 obtain⟨ds,rfl⟩:=kdL_inv h
 obtain⟨a,vs,f,rfl,q,_⟩:=Jj hC hF r
 exact .inl ⟨rfl,vs,q⟩
theorem JcI {ds v fp} (r:Rep C H (.lst .m ds) v fp):∃a vs f,v=.ref a∧H a=some (.lst vs)∧Reps C H ds vs f∧fp=a::f:=by
 obtain⟨a,vs,f1,f2,e,⟨h,rfl⟩,r,_,e2⟩:=r
 exact⟨a,vs,f2,e,h,r,e2⟩
theorem JU:∀{ds es:List D} {vs ws:List V} {f g:List Addr},Reps C H ds vs f→Reps C H es ws g→Reps C H (ds++es) (vs++ws) (f++g)
 | [],es,vs,ws,f,g,⟨h1,h2⟩,r=>by subst h1 h2;exact r
 | d::ds,es,vs,ws,f,g,⟨v,vs',f1,f2,e,r1,rs,e2⟩,r=>by subst e e2;exact⟨v,vs'++ws,f1,f2++g,rfl,r1,JU rs r,by simp⟩
def Yk:D→List D→Option (D × D)
 | .lst .m ds,[x]=>if ds.length < sizeLine then some (.lst .m (ds++[x]),.non) else none
 | _,_=>none
theorem mu_append:MuOk X "list" rAppend kdL Yk:=by
 refine⟨?_,JcC⟩
 intro C H v d fp vs ds fpa Q d' res hC hF r ra nd h k
 unfold Yk at h
 split at h
 ·rename_i ds x
  split at h
  ·rename_i hz
   cases h
   obtain⟨a,ws,f,rfl,hH,rs,rfl⟩:=JcI r
   obtain⟨w,rfl,rx⟩:=YR ra
   have m:=Mono.upd (o:=.lst (ws++[w])) hH trivial
   have nda:a∉f++fpa:=by simp at nd ⊢;exact⟨nd.1.1,nd.1.2⟩
   have kp:∀b∈f++fpa,upd H a (.lst (ws++[w])) b=H b:=fun b hb=>upd_ne (fun z=>nda (z ▸ hb))
   refine⟨a,ws,w,rfl,rfl,hH,by rw[←Je rs];exact hz,?_⟩
   refine k _ .non (a::(f++fpa)) [] m (fun b o e hb=>?_) ⟨a,_,[a],_,rfl,⟨upd_same,rfl⟩,JU (rs.keep (fun b hb=>kp b (by simp[hb])) m) ⟨w,[],fpa,[],rfl,rx.keep (fun b hb=>kp b (by simp[hb])) m,⟨rfl,rfl⟩,by simp⟩,.inl rfl,rfl⟩ ⟨rfl,rfl⟩ (by simpa using nd) fun b hb=>?_
   ·rw[upd_ne (fun z=>hb (by simp[z]))];exact e
   ·simp at hb ⊢
    rcases hb with z | z | z<;>simp[z]
  ·cases h
 ·cases h
def putD (ks:List Key) (ds:List D) (k:Key) (x:D):D:=match idxK ks k with
 | some j=>.dct .m ks (ds.set j x)
 | none=>.dct .m (ks++[k]) (ds++[x])
def stD:D→D→D→Option D
 | .lst .m ds,.int k,x=>(ixN ds.length k).map fun j=>.lst .m (ds.set j x)
 | .dct .m ks ds,k,x=>k.key.bind fun k=>if ks.length < sizeLine then some (putD ks ds k x) else none
 | _,_,_=>none
end
end VS
namespace VS
open PySem L2 SeqAt
section
variable {X:Cx} {W:WX} {M M1 M2 M3 V1 V2 V3 Rs R1 R2 R3:List Nat} {e a b c tg o:Expr} {es:List Expr} {ca cb cc:CE} {cs:CA} {pos p:Pos} {cl:CL} {i:Nat}
variable {pins:List (Addr × Obj)} {σ:St} {H H1 H2 H':Hp} {s:Shared} {C C':Ctx} {fs fs1 fs2:FPs} {env env1 env2:Env} {tf tf' own:List Addr}
def JcS:V→V→V→Hp→(Hp→Prop)→Prop:=fun o i v H Q=>∃a H',o=.ref a∧DPut H a i v H'∧Q H'
theorem set_dict {k:Nat} (hr:Room k X.A):PSet X JcS:=by
 intro pins s σ H o i v ov iv u Q I ro ri rv ⟨a,H',e,g,q⟩
 subst e
 cases (show ov=Value.ref a from ro)
 exact d_setItem (by have:=hr.units;omega) I g ri rv fun s' I'=>⟨H',I',q⟩
theorem set_any {k:Nat} (hr:Room k X.A):PSet X (fun o i v H Q=>rSetL o i v H Q∨JcS o i v H Q):=by
 intro pins s σ H o i v ov iv u Q I ro ri rv h
 rcases h with h | h
 ·exact set_list pins s σ H o i v ov iv u Q I ro ri rv h
 ·exact set_dict hr pins s σ H o i v ov iv u Q I ro ri rv h
theorem QJ {kvs:List (Key × V)} {j:Nat} {k:Key} {v:V}:(kvs.set j (k,v)).map (·.2)=(kvs.map (·.2)).set j v:=by
 rw[List.map_set]
theorem QS {kvs:List (Key × V)} {j:Nat} {k:Key} {v:V} (h:(kvs[j]?).map (·.1)=some k):(kvs.set j (k,v)).map (·.1)=kvs.map (·.1):=by
 rw[List.map_set]
 have hj:j < kvs.length:=by
  by_cases q:j < kvs.length
  ·exact q
  ·rw[List.getElem?_eq_none (by omega)]at h;simp at h
 have:(kvs.map (·.1))[j]'(by simpa using hj)=k:=by
  rw[List.getElem?_eq_getElem hj]at h
  simpa using h
 conv=>rhs;rw[←List.set_getElem_self (as:=kvs.map (·.1)) (i:=j) (by simpa using hj)]
 rw[this]
theorem Jb8:∀{ks:List Key} {k:Key} {j:Nat},idxK ks k=some j→ks[j]?=some k
 | [],k,j,h=>by simp[idxK]at h
 | k0::ks,k,j,h=>by
  simp only[idxK]at h
  by_cases e:k0=k
  ·rw[if_pos e]at h;cases h;simp[e]
  ·rw[if_neg e]at h
   obtain⟨j',h',rfl⟩:=Option.map_eq_some_iff.mp h
   simpa using Jb8 h'
theorem Jbr:∀{ks:List Key} {k:Key},idxK ks k=none→k∉ks
 | [],k,_=>by simp
 | k0::ks,k,h=>by
  simp only[idxK]at h
  by_cases e:k0=k
  ·rw[if_pos e]at h;cases h
  ·rw[if_neg e]at h
   have:=Jbr (ks:=ks) (k:=k) (by simpa using h)
   simp[this,Ne.symm e]
theorem st_ok {d y x d':D} {v w vx:V} {fp fw fx} (hC:C.At X) (hF:Fr C H) (r:Rep C H d v fp) (ry:Rep C H y w fw) (rx:Rep C H x vx fx) (nd:(fp++fx).Nodup) (h:stD d y x=some d') {Q:Hp→Prop}
  (k:∀H' fp',Mono H H'→(∀a o,H a=some o→a∉fp→H' a=some o)→Rep C H' d' v fp'→fp'.Nodup→(∀a∈fp',a∈fp∨a∈fx)→Q H'):rSetL v w vx H Q∨JcS v w vx H Q:=by
 unfold stD at h
 split at h
 ·rename_i ds n
  obtain⟨j,hj,rfl⟩:=Option.map_eq_some_iff.mp h
  obtain⟨a,vs,f,rfl,hH,rs,rfl⟩:=JcI r
  obtain⟨rfl,_⟩:=ry
  have hjl:j < ds.length:=(ixN_seq hj).2.1
  obtain⟨w',g1,fo,g2,h1,h2,h3,h4⟩:=UI rs (j:=j) (x:=ds[j]) (by simp[hjl])
  have m:=Mono.upd (o:=.lst (vs.set j vx)) hH trivial
  subst h3
  have nda:a∉g1++fo++g2++fx:=by simp at nd ⊢;exact⟨nd.1.1,nd.1.2.1,nd.1.2.2.1,nd.1.2.2.2⟩
  refine .inl ⟨a,vs,n,j,rfl,rfl,hH,by rw[←Je rs];exact hj,?_⟩
  have kp:∀b,b≠a→upd H a (.lst (vs.set j vx)) b=H b:=fun b hb=>upd_ne hb
  refine k _ (a::(g1++fx++g2)) m (fun b o e hb=>?_) ⟨a,_,[a],_,rfl,⟨upd_same,rfl⟩,h4 _ x vx fx m (fun b hb=>kp b ?_) (rx.keep (fun b hb=>kp b ?_) m),.inl rfl,rfl⟩ ?_ ?_
  ·rw[kp b (fun z=>hb (by simp[z]))];exact e
  ·intro z;subst z;exact nda (by simp at hb ⊢;rcases hb with z | z<;>simp[z])
  ·intro z;subst z;exact nda (by simp[hb])
  ·have p:(a::(g1++fx++g2)++fo).Perm (a::(g1++fo++g2)++fx):=by
    refine List.Perm.cons a ?_
    show ((g1++fx++g2)++fo).Perm ((g1++fo++g2)++fx)
    simp only[List.append_assoc]
    refine List.Perm.append_left g1 ?_
    have a1:(fx++(g2++fo)).Perm ((g2++fo)++fx):=List.perm_append_comm
    refine a1.trans ?_
    rw[List.append_assoc]
    exact List.perm_append_comm_assoc _ _ _
   exact(List.nodup_append.mp (p.nodup_iff.mpr nd)).1
  ·intro b hb
   simp at hb ⊢
   rcases hb with z | z | z | z<;>simp[z]
 ·rename_i ks ds
  obtain⟨ky,hk,h⟩:=Option.bind_eq_some_iff.mp h
  split at h
  case isFalse=>cases h
  rename_i hz
  cases h
  obtain⟨a,kvs,f1,f,rfl,⟨hH,rfl⟩,⟨hks,hnd⟩,rs,_,rfl⟩:=r
  have ey:=ZJ hk ry
  have hl:kvs.length < sizeLine:=by
   have:kvs.length=ks.length:=by rw[←hks];simp
   omega
  have m:=Mono.upd (o:=.dK (putK kvs ky vx)) hH trivial
  have kp:∀b,b≠a→upd H a (.dK (putK kvs ky vx)) b=H b:=fun b hb=>upd_ne hb
  refine .inr ⟨a,_,rfl,.inl ⟨kvs,ky,hH,ey,hl,rfl⟩,?_⟩
  cases q:idxK ks ky with
  | some j =>
   have ed:putD ks ds ky x=.dct .m ks (ds.set j x):=by unfold putD;rw[q]
   rw[ed]at k
   have q':=q
   rw[←hks]at q'
   have hn:(kvs.map (·.1)).Nodup:=by rw[hks];exact hnd
   have e1:=QC (v:=vx) hn q'
   have hj:=(Qc q').2
   have hjd:j < ds.length:=by rw[Je rs];simpa using hj
   obtain⟨w',g1,fo,g2,h1,h2,h3,h4⟩:=UI rs (j:=j) (x:=ds[j]) (by simp[hjd])
   subst h3
   have nda:a∉g1++fo++g2++fx:=by simp at nd ⊢;exact⟨nd.1.1,nd.1.2.1,nd.1.2.2.1,nd.1.2.2.2⟩
   refine k _ (a::(g1++fx++g2)) m (fun b o e hb=>?_) ⟨a,putK kvs ky vx,[a],_,rfl,⟨upd_same,rfl⟩,⟨?_,hnd⟩,?_,.inl rfl,rfl⟩ ?_ ?_
   ·rw[kp b (fun z=>hb (by simp[z]))];exact e
   ·rw[e1,QS,hks]
    have:=Jb8 q'
    rw[List.getElem?_map]at this;exact this
   ·have hs2:(putK kvs ky vx).map (·.2)=(kvs.map (·.2)).set j vx:=by rw[e1,QJ]
    rw[hs2]
    refine h4 _ x vx fx m (fun b hb=>kp b ?_) (rx.keep (fun b hb=>kp b ?_) m)
    ·intro z;subst z;exact nda (by simp at hb ⊢;rcases hb with z | z<;>simp[z])
    ·intro z;subst z;exact nda (by simp[hb])
   ·have p:(a::(g1++fx++g2)++fo).Perm (a::(g1++fo++g2)++fx):=by
     refine List.Perm.cons a ?_
     show ((g1++fx++g2)++fo).Perm ((g1++fo++g2)++fx)
     simp only[List.append_assoc]
     refine List.Perm.append_left g1 ?_
     have a1:(fx++(g2++fo)).Perm ((g2++fo)++fx):=List.perm_append_comm
     refine a1.trans ?_
     rw[List.append_assoc]
     exact List.perm_append_comm_assoc _ _ _
    exact(List.nodup_append.mp (p.nodup_iff.mpr (by simpa using nd))).1
   ·intro b hb
    simp at hb ⊢
    rcases hb with z | z | z | z<;>simp[z]
  | none =>
   have ed:putD ks ds ky x=.dct .m (ks++[ky]) (ds++[x]):=by unfold putD;rw[q]
   rw[ed]at k
   have q':=q
   rw[←hks]at q'
   have e1:=putK_new vx (Jai q')
   have nda:a∉f++fx:=by simp at nd ⊢;exact⟨nd.1.1,nd.1.2⟩
   refine k _ (a::(f++fx)) m (fun b o e hb=>?_) ⟨a,putK kvs ky vx,[a],_,rfl,⟨upd_same,rfl⟩,⟨by rw[e1,List.map_append,hks];rfl,?_⟩,?_,.inl rfl,rfl⟩ (by simpa using nd) ?_
   ·rw[kp b (fun z=>hb (by simp[z]))];exact e
   ·refine List.nodup_append.mpr ⟨hnd,by simp,fun x hx y hy e=>?_⟩
    simp at hy;subst hy;subst e
    exact Jbr q hx
   ·have hs2:(putK kvs ky vx).map (·.2)=kvs.map (·.2)++[vx]:=by rw[e1,List.map_append];rfl
    rw[hs2]
    refine JU (rs.keep (fun b hb=>kp b ?_) m) ⟨vx,[],fx,[],rfl,rx.keep (fun b hb=>kp b ?_) m,⟨rfl,rfl⟩,by simp⟩
    ·intro z;subst z;exact nda (by simp[hb])
    ·intro z;subst z;exact nda (by simp[hb])
   ·intro b hb
    simp at hb ⊢
    rcases hb with z | z | z<;>simp[z]
 ·cases h
def UH (i:Nat) (cl:CL) (cb:CE):D→Env→Option Env:=fun x env=>match cl env with
 | .ok dF env1=>match cb env1 with
  | .ok y env2=>(stD dF.1 y x).map fun d'=>env2.set i (some (dF.2 d'))
  | _=>none
 | _=>none
theorem ZO {k:Nat} {W1 W2:WX} (hr:Room k X.A) (ho:SL X W1 i M1 o cl) (hb:SB X W2 M2 R2 b cb) (hi:djB [i] M2=true:=by decide)
  (ha:∀v,assign (.Subscript o b pos) X.env v=(do
   let ov ←holding [v] (eval o X.env)
   let iv ←holding [v,ov] (eval b X.env)
   standAt pos
   holding [v,ov,iv] (setItem ov iv v)
   release [v,ov,iv] []):=by intro _;rfl):SG X (M1++(M2++[i])) [] (.Subscript o b pos) (UH i cl cb):=by
 obtain⟨t,p,q⟩:=ho.go
 obtain⟨t2,p2,q2⟩:=hb.go
 refine⟨gSub t t2 _,pg_sub p p2 (set_any hr) ha,fun C fs env σ H tf Q x vx fx hC G rx po=>?_⟩
 unfold UH at po
 refine q C fs env σ H (fx++tf) _ hC G ?_
 cases e1:cl env with
 | err=>rw[e1]at po;exact po.elim
 | ex z env'=>rw[e1]at po;exact po.elim
 | ok dF env1 =>
  rw[e1]at po
  intro v' fs1 H1 d v g1 fp' g2 G1 s1 hd hv hf Fo
  refine q2 C fs1 env1 σ H1 (fx++tf) _ hC G1 ?_
  have po1:Qi C (M1++(M2++[i])) [] tf fs env σ H Q (match cb env1 with
   | .ok y env2=>(stD dF.1 y x).map fun d'=>env2.set i (some (dF.2 d'))
   | _=>none):=po
  cases e2:cb env1 with
  | err=>rw[e2]at po1;exact po1.elim
  | ex z env'=>rw[e2]at po1;exact po1.elim
  | ok y env2 =>
   rw[e2]at po1
   intro w fs2 H2 fw own G2 s2 rw' iw
   have ni:i∉M2:=Yv hi i (by simp)
   have Fo2:=Fo.keep s2.m (fun a ha=>s2.h i ni a (by rw[hf];exact ha))
   have hd2:env2[i]?=some (some d):=by rw[s2.e i ni];exact hd
   have hf2:fs2.getD i []=g1++fp'++g2:=by rw[s2.f i ni];exact hf
   have po2:Qi C (M1++(M2++[i])) [] tf fs env σ H Q ((stD dF.1 y x).map fun d'=>env2.set i (some (dF.2 d'))):=po1
   cases e3:stD dF.1 y x with
   | none=>rw[e3]at po2;exact po2.elim
   | some d' =>
    rw[e3]at po2
    have G2':Good C fs2 env2 σ H2 (fx++tf):=G2.drop
    have rx2:Rep C H2 x vx fx:=(rx.keep (fun a ha=>s1.t a (by simp[ha])) s1.m).keep (fun a ha=>s2.t a (by simp[ha])) s2.m
    have inf:∀a∈fp',a∈fs2.getD i []:=fun a ha=>by rw[hf2];simp[ha]
    have ndp:(fp'++fx).Nodup:=by
     have nd:=G2'.nd
     refine List.nodup_append.mpr ⟨?_,(List.nodup_append.mp (List.nodup_append.mp nd).2.1).1,fun a ha b hb eab=>?_⟩
     ·have:=(List.nodup_append.mp nd).1
      have:=(Yy fs2 (G2'.lt hd2)).nodup_iff.mp this
      have:=(List.nodup_append.mp this).1
      rw[hf2]at this
      exact(List.nodup_append.mp (List.nodup_append.mp this).1).2.1
     ·subst eab;exact G2'.apartT (inf a ha) (by simp[hb])
    refine st_ok hC G2.fr Fo2.here rw' rx2 ndp e3 fun H3 fp3 m3 ch r3 nd3 sub3=>?_
    have tfk:∀a∈tf,H3 a=H2 a:=fun a ha=>by
     obtain⟨o,e,_⟩:=G2'.trk a (by simp[ha])
     rw[e];exact ch a o e fun hx=>G2'.apartT (inf a hx) (by simp[ha])
    have Gn:Good C (fs2.set i (g1++fp3++g2)) (env2.set i (some (dF.2 d'))) σ H3 tf:=by
     refine G2'.mut hd2 hv hf2 Fo2 m3 ch r3 ?_ ?_ ?_
     ·refine List.nodup_append.mpr ⟨nd3,(List.nodup_append.mp (List.nodup_append.mp G2'.nd).2.1).2.1,fun a ha b hb eab=>?_⟩
      subst eab
      rcases sub3 a ha with z | z
      ·exact G2'.apartT (inf a z) (by simp[hb])
      ·exact(List.nodup_append.mp (List.nodup_append.mp G2'.nd).2.1).2.2 a z a hb rfl
     ·intro a ha
      rcases List.mem_append.mp ha with z | z
      ·rcases sub3 a z with w | w
       ·exact .inl w
       ·exact .inr (.inl (by simp[w]))
      ·exact .inr (.inl (by simp[z]))
     ·intro a ha
      rw[tfk a ha];exact G2'.trk a (by simp[ha])
    have sn:Step [i] tf fs2 env2 H2 (fs2.set i (g1++fp3++g2)) (env2.set i (some (dF.2 d'))) H3:=Step.mut (d:=d) G2' hd2 hf2 m3 ch
    have w1:=s1.weak (M':=M1) (tf':=tf) (fun _ z=>z) fun x hx=>by simp[hx]
    have w2:=s2.weak (M':=M2) (tf':=tf) (fun _ z=>z) fun x hx=>by simp[hx]
    have:=(w1.trans w2).trans sn
    rw[List.append_assoc]at this
    exact po2 _ σ H3 Gn this.ss
end
end VS
namespace VS
open PySem L2 SeqAt
section
variable {X:Cx} {W:WX} {pos:Pos}
def cGet (i:Nat):CE:=fun env=>match env[i]? with
 | some (some d)=>if d.imm then .ok d env else .ok d (env.set i none)
 | _=>.err
theorem Yj (i:Nat) {x:Str} (hN:X.N[i]?=some x:=by rfl) (hv:Vis X.env.scope x:=by first | exact Or.inl rfl | exact Or.inr (Or.inl rfl) | exact Or.inr (Or.inr rfl)) (hd:(x == ("__debug__" : Str))=false:=by decide)
  (hcd:(x == ("__classdict__" : Str))=false:=by decide):SO X W [i] (.Name x pos) (cGet i):=by
 refine⟨tVar i,pe_var hN hv hd hcd,fun C fs env σ H tf Q hC G po=>?_⟩
 unfold cGet at po
 split at po
 ·rename_i d e1
  obtain⟨v,e2,r⟩:=G.rep i d e1
  split at po
  ·rename_i hi
   refine⟨v,e2,po v fs H [] (by simpa using G) .refl ?_⟩
   have:=r.imm hi
   first | exact this | exact this.1 | (subst this;exact r) | (rw[this]at r;exact r)
  ·refine⟨v,e2,po v (fs.set i []) H _ (G.mv e1) ⟨fun _ _=>rfl,fun j hj=>?_,fun j hj=>?_,fun _ _ _ _=>rfl,.refl H⟩ r⟩
   ·rw[JE fs i j [] (G.lt e1),if_neg (by simpa using hj)]
   ·rw[List.getElem?_set,if_neg (by intro z;subst z;simp at hj)]
 ·exact po.elim
variable {M M1 M2 M3 V1 V2 V3 Rs R1 R2 R3:List Nat} {e a b c tg:Expr} {es:List Expr} {ca cb cc:CE} {cs:CA} {cr:Env→R (List AV)} {io:List Bool} {i j:Nat} {x y:Str}
theorem JcA {px py pt:Pos} {kt k2 pt2} (hc:X.calm=true) (hN:X.N.Nodup) (ha:SAO X W M [a,b] cs) (hi:X.N[i]?=some x:=by rfl) (hj:X.N[j]?=some y:=by rfl) (hij:i≠j:=by decide)
  (hx:X.env.scope.names.lookup x=some .local:=by rfl) (hy:X.env.scope.names.lookup y=some .local:=by rfl)
  (hw:swappedStores [.Tuple [.Name x px,.Name y py] kt pt] (.Tuple [a,b] k2 pt2) X.env=pure (some [x,y]):=by rfl)
  (hs:swapsWithSole [.Tuple [.Name x px,.Name y py] kt pt] (.Tuple [a,b] k2 pt2) pos.line X.env=pure false:=by rfl) :
  SS X W (M++([i]++[j])) ([i]++[j]) (.Assign [.Tuple [.Name x px,.Name y py] kt pt] (.Tuple [a,b] k2 pt2) pos) (sPar i j cs):=ss_par i j hc hN ha hi hj hij hx hy hw hs
theorem Jp {pos':Pos} (hN:X.N.Nodup) (h:SO X W M e ca) (hi:X.N[i]?=some x:=by rfl) (hx:Loc X.env.scope x:=by first | exact .inl rfl | exact .inr rfl) (hs:swapsWith e (some (.Name x pos')) pos.line X.env=pure false:=by rfl) (hf:X.fn x=true∨X.env.scope.names.lookup x=some .local:=by first | exact .inl rfl | exact .inr rfl | assumption) :
  SS X W (M++[i]) [i] (.Assign [.Name x pos'] e pos) (sAsg ca (gSet i)):=ss_set i hN h hi hx hs hf
theorem JD (hr:SRI X W M2 R2 io es cr) (hN:X.N[i]?=some x:=by rfl) (hv:Vis X.env.scope x:=by first | exact Or.inl rfl | exact Or.inr (Or.inl rfl) | exact Or.inr (Or.inr rfl)) (hd:(x == ("__debug__" : Str))=false:=by decide)
  (hcd:(x == ("__classdict__" : Str))=false:=by decide) (hs:starEach (.Name x pos::es) X.env=(false,eval (.Name x pos) X.env)::starEach es X.env:=by rfl):SRI X W ([i]++M2) R2 (true::io) (.Name x pos::es) (aOw (cMv i) (some i) cr):=sri_io i hr hN hv hd hcd hs
end
end VS
namespace VS
open PySem L2 SeqAt
section
variable {α β:Type} (env:Env) (i j:Nat) (c ca cb cc:CE) (cs:CA) (ct:CT) (ta tb:CT) (d:D) (p q:D→D→Option D) (p1:D→Option D) (pl:List D→Option D) (s1 s2:CS) (g:D→Env→Option Env)
@[simp] theorem e_bind1 (a:α) (f:α→Env→R β):(R.ok a env).bind f=f a env:=(rfl)
@[simp] theorem e_bind2 (x:Exn) (f:α→Env→R β):(R.ex x env:R α).bind f=.ex x env:=(rfl)
@[simp] theorem e_bind3 (f:α→Env→R β):(R.err:R α).bind f=.err:=(rfl)
@[simp] theorem e_of1 (a:α):R.of (some a) env=.ok a env:=(rfl)
@[simp] theorem e_of2:R.of (none:Option α) env=.err:=(rfl)
@[simp] theorem e_var:cVar i env=match env[i]? with
 | some (some d)=>.ok d env
 | _=>.err:=(rfl)
@[simp] theorem e_mv:cMv i env=match env[i]? with
 | some (some d)=>.ok d (env.set i none)
 | _=>.err:=(rfl)
@[simp] theorem e_get:cGet i env=match env[i]? with
 | some (some d)=>if d.imm then .ok d env else .ok d (env.set i none)
 | _=>.err:=(rfl)
@[simp] theorem e_k:cK d env=.ok d env:=(rfl)
@[simp] theorem e_two:cTwo ca cb env=(ca env).bind fun x env=>(cb env).bind fun y env=>.ok (x,y) env:=(rfl)
@[simp] theorem e_2:c2 p ca cb env=(cTwo ca cb env).bind fun xy env=>R.of (p xy.1 xy.2) env:=(rfl)
@[simp] theorem e_1:c1 p1 ca env=(ca env).bind fun x env=>R.of (p1 x) env:=(rfl)
@[simp] theorem e_idx:cIdx ca cb env=c2 ixD ca cb env:=(rfl)
@[simp] theorem e_imm:cImm c env=(c env).bind fun d env=>if d.imm then .ok d env else .err:=(rfl)
@[simp] theorem e_nil:cNil env=.ok [] env:=(rfl)
@[simp] theorem e_cons:Jc c cs env=(c env).bind fun d env=>(cs env).bind fun ds env=>.ok (d::ds) env:=(rfl)
@[simp] theorem e_L:cL pl cs env=(cs env).bind fun ds env=>R.of (pl ds) env:=(rfl)
@[simp] theorem e_tup:cTup cs env=(cs env).bind fun ds env=>if ds.length≤sizeLine then .ok (.tup ds) env else .err:=(rfl)
@[simp] theorem e_lst:cLst cs env=(cs env).bind fun ds env=>if ds.length≤sizeLine then .ok (.lst .m ds) env else .err:=(rfl)
@[simp] theorem e_tt:cTt ca env=(ca env).bind fun d env=>R.of d.tt env:=(rfl)
@[simp] theorem e_tt1 (b:Bool):D.tt (.bl b)=some b:=(rfl)
@[simp] theorem e_tand:Jco ta tb env=(ta env).bind fun b env=>if b=true then tb env else .ok false env:=(rfl)
@[simp] theorem e_tor:tcOr ta tb env=(ta env).bind fun b env=>if b=true then .ok true env else tb env:=(rfl)
@[simp] theorem e_tnot:Jcx ta env=(ta env).bind fun b env=>.ok (!b) env:=(rfl)
@[simp] theorem e_anil:aNil env=.ok [] env:=(rfl)
@[simp] theorem e_aro (cr:Env→R (List AV)):aRo ca cr env=(ca env).bind fun d env=>(cr env).bind fun as env=>.ok (.ro d::as) env:=(rfl)
@[simp] theorem e_aow (wb:Option Nat) (cr:Env→R (List AV)):aOw ca wb cr env=(ca env).bind fun d env=>(cr env).bind fun as env=>.ok (.ow d wb::as) env:=(rfl)
@[simp] theorem e_call (φ:List D→FR) (cr:Env→R (List AV)):Jo φ cr env=(cr env).bind fun avs env=>UZ avs env (φ (avs.map AV.d)):=(rfl)
@[simp] theorem e_end1 (avs:List AV) (r:D) (os:List D):UZ avs env (.ok r os)=if r.nol && nols os then (match JH avs os env with
  | some env'=>.ok r env'
  | none=>.err) else .err:=(rfl)
@[simp] theorem e_end2 (avs:List AV) (x:Exn) (os:List D):UZ avs env (.ex x os)=if nols os then (match JH avs os env with
  | some env'=>.ex x env'
  | none=>.err) else .err:=(rfl)
@[simp] theorem e_ro (d:D):AV.d (.ro d)=d.lend:=(rfl)
@[simp] theorem e_ow (d:D) (wb:Option Nat):AV.d (.ow d wb)=d:=(rfl)
@[simp] theorem e_pb0:JH [] [] env=some env:=(rfl)
@[simp] theorem e_pb1 (d:D) (as:List AV) (os:List D):JH (.ro d::as) os env=JH as os env:=by
 cases as<;>cases os<;>rfl
@[simp] theorem e_pb2 (d o:D) (as:List AV) (os:List D):JH (.ow d (some i)::as) (o::os) env=JH as os (env.set i (some o)):=(rfl)
@[simp] theorem e_pb3 (d o:D) (as:List AV) (os:List D):JH (.ow d none::as) (o::os) env=JH as os env:=(rfl)
@[simp] theorem e_snil:sNil env=.nx env:=(rfl)
@[simp] theorem Jdn:sSeq s1 s2 env=(s1 env).bind s2:=(rfl)
@[simp] theorem e_ob1 (f:CS):(O.nx env).bind f=f env:=(rfl)
@[simp] theorem e_ob2 (f:CS):(O.rt d env).bind f=.rt d env:=(rfl)
@[simp] theorem e_ob3 (f:CS):(O.bk env).bind f=.bk env:=(rfl)
@[simp] theorem e_ob4 (f:CS):(O.ct env).bind f=.ct env:=(rfl)
@[simp] theorem e_ob5 (x:Exn) (f:CS):(O.ex x env).bind f=.ex x env:=(rfl)
@[simp] theorem e_ob6 (f:CS):(O.err).bind f=.err:=(rfl)
@[simp] theorem e_expr:YN c env=match c env with
 | .ok _ env=>.nx env
 | .ex x env=>.ex x env
 | .err=>.err:=(rfl)
@[simp] theorem e_ret:sRet c env=match c env with
 | .ok d env=>.rt d env
 | .ex x env=>.ex x env
 | .err=>.err:=(rfl)
@[simp] theorem e_sif:sIf ct s1 s2 env=match ct env with
 | .ok k env=>if k=true then s1 env else s2 env
 | .ex x env=>.ex x env
 | .err=>.err:=(rfl)
@[simp] theorem e_gset:gSet i d env=some (env.set i (some d)):=(rfl)
@[simp] theorem e_asg:sAsg c g env=match c env with
 | .ok d env=>match g d env with
  | some env=>.nx env
  | none=>.err
 | .ex x env=>.ex x env
 | .err=>.err:=(rfl)
@[simp] theorem e_par:sPar i j cs env=match cs env with
 | .ok [d,e] env=>.nx ((env.set i (some d)).set j (some e))
 | .ok _ _=>.err
 | .ex x env=>.ex x env
 | .err=>.err:=(rfl)
@[simp] theorem e_imm1 (i:Int):(D.int i).imm=true:=(rfl)
@[simp] theorem e_imm2 (b:Bool):(D.bl b).imm=true:=(rfl)
@[simp] theorem e_imm3 (s:Str):(D.str s).imm=true:=(rfl)
@[simp] theorem e_imm4:D.non.imm=true:=(rfl)
@[simp] theorem e_imm5 (ds:List D):(D.tup ds).imm=imms ds:=(rfl)
@[simp] theorem e_imm6 (g:Fl) (ds:List D):(D.lst g ds).imm=((g == .l || g == .f) && imms ds):=(rfl)
@[simp] theorem e_imms0:imms []=true:=(rfl)
@[simp] theorem e_imms1 (ds:List D):imms (d::ds)=(d.imm && imms ds):=(rfl)
@[simp] theorem e_nol1 (i:Int):(D.int i).nol=true:=(rfl)
@[simp] theorem e_nol2 (b:Bool):(D.bl b).nol=true:=(rfl)
@[simp] theorem e_nol3 (s:Str):(D.str s).nol=true:=(rfl)
@[simp] theorem e_nol4:D.non.nol=true:=(rfl)
@[simp] theorem e_nol5 (ds:List D):(D.tup ds).nol=nols ds:=(rfl)
@[simp] theorem e_nol6 (ds:List D):(D.lst .m ds).nol=nols ds:=(rfl)
@[simp] theorem e_nols0:nols []=true:=(rfl)
@[simp] theorem e_nols1 (ds:List D):nols (d::ds)=(d.nol && nols ds):=(rfl)
@[simp] theorem e_lend1 (i:Int):(D.int i).lend=.int i:=(rfl)
@[simp] theorem e_lend2 (b:Bool):(D.bl b).lend=.bl b:=(rfl)
@[simp] theorem e_lend3 (s:Str):(D.str s).lend=.str s:=(rfl)
@[simp] theorem e_lend4:D.non.lend=.non:=(rfl)
@[simp] theorem e_lend5 (ds:List D):(D.tup ds).lend=.tup (lends ds):=(rfl)
@[simp] theorem e_lend6 (ds:List D):(D.lst .m ds).lend=.lst .l (lends ds):=(rfl)
@[simp] theorem e_lend7 (ds:List D):(D.lst .l ds).lend=.lst .l (lends ds):=(rfl)
@[simp] theorem e_lends0:lends []=[]:=(rfl)
@[simp] theorem e_lends1 (ds:List D):lends (d::ds)=d.lend::lends ds:=(rfl)
@[simp] theorem JaF:∀ns:List Int,lends (ns.map D.int)=ns.map D.int
 | []=>rfl
 | n::ns=>by simp[JaF ns]
@[simp] theorem imms_ints:∀ns:List Int,imms (ns.map D.int)=true
 | []=>rfl
 | n::ns=>by simp[imms_ints ns]
@[simp] theorem e_pI (cc:Int→Int→Bool) (g:Int→Int→Int) (i j:Int):pI cc g (.int i) (.int j)=if cc i j then some (.int (g i j)) else none:=(rfl)
@[simp] theorem e_pIB (g:Int→Int→Bool) (i j:Int):pIB g (.int i) (.int j)=some (.bl (g i j)):=(rfl)
@[simp] theorem e_neg (i:Int):pNeg (.int i)=some (.int (-i)):=(rfl)
@[simp] theorem e_eq (i j:Int):pEq (.int i) (.int j)=some (.bl (i == j)):=(rfl)
@[simp] theorem e_ne (i j:Int):pNe (.int i) (.int j)=some (.bl (!(i == j))):=(rfl)
@[simp] theorem e_min2 (i j:Int):JcB [.int i,.int j]=some (.int (if j < i then j else i)):=(rfl)
@[simp] theorem e_int1 (i:Int):JaT [.int i]=some (.int i):=(rfl)
@[simp] theorem e_int2 (b:Bool):JaT [.bl b]=some (.int (if b then 1 else 0)):=(rfl)
@[simp] theorem e_len1 (g:Fl) (ds:List D):pLen [.lst g ds]=some (.int ds.length):=(rfl)
@[simp] theorem e_len2 (ds:List D):pLen [.tup ds]=some (.int ds.length):=(rfl)
@[simp] theorem e_ix1 (g:Fl) (ds:List D) (i:Int):ixD (.lst g ds) (.int i)=atI ds i:=(rfl)
@[simp] theorem e_ix2 (ds:List D) (i:Int):ixD (.tup ds) (.int i)=atI ds i:=(rfl)
theorem Za {α:Type} {xs:List α} {k:Nat} (h:k < xs.length):atI xs (k:Int)=xs[k]?:=by
 unfold atI ixN
 rw[if_pos (by omega),if_pos (by omega)]
 simp
@[simp] theorem atI_0 {α:Type} (x:α) (xs:List α):atI (x::xs) 0=some x:=by
 have:=Za (xs:=x::xs) (k:=0) (by simp);simpa using this
@[simp] theorem atI_1 {α:Type} (x y:α) (xs:List α):atI (x::y::xs) 1=some y:=by
 have:=Za (xs:=x::y::xs) (k:=1) (by simp);simpa using this
@[simp] theorem atI_2 {α:Type} (x y z:α) (xs:List α):atI (x::y::z::xs) 2=some z:=by
 have:=Za (xs:=x::y::z::xs) (k:=2) (by simp);simpa using this
@[simp] theorem atI_3 {α:Type} (x y z u:α) (xs:List α):atI (x::y::z::u::xs) 3=some u:=by
 have:=Za (xs:=x::y::z::u::xs) (k:=3) (by simp);simpa using this
@[simp] theorem atI_4 {α:Type} (x y z u v:α) (xs:List α):atI (x::y::z::u::v::xs) 4=some v:=by
 have:=Za (xs:=x::y::z::u::v::xs) (k:=4) (by simp);simpa using this
theorem Ye {n:Nat} (h:n≤1000):n≤sizeLine:=Nat.le_of_lt (small1000 h)
@[simp] theorem sz_0:0≤sizeLine:=Ye (by decide)
@[simp] theorem sz_1:1≤sizeLine:=Ye (by decide)
@[simp] theorem sz_2:2≤sizeLine:=Ye (by decide)
@[simp] theorem sz_3:3≤sizeLine:=Ye (by decide)
@[simp] theorem sz_4:4≤sizeLine:=Ye (by decide)
@[simp] theorem sz_5:5≤sizeLine:=Ye (by decide)
@[simp] theorem sz_6:6≤sizeLine:=Ye (by decide)
@[simp] theorem m01a (c:Prop) [Decidable c]:-18446744073709551616 < (if c then (1:Int) else 0):=by split<;>omega
@[simp] theorem m01b (c:Prop) [Decidable c]:(if c then (1:Int) else 0) < 18446744073709551616:=by split<;>omega
@[simp] theorem m2a (x:Int):-18446744073709551616 < x % 40009+7:=by omega
@[simp] theorem m2b (x:Int):x % 40009+7 < 18446744073709551616:=by omega
end
end VS
namespace VS
open PySem L2 SeqAt
def tO (K:PySem.W.Frag) (mg:Str→Option Value) (W:WX) (M:List Nat) (c:CE):TE:=fun σ H Q=>∃C fs env tf,C.K=K∧C.mg=mg∧Good C fs env σ H tf∧JY W C M tf fs env σ H Q (c env)
def tT (K:PySem.W.Frag) (mg:Str→Option Value) (W:WX) (M:List Nat) (c:CT):TT:=fun σ H Q=>∃C fs env tf,C.K=K∧C.mg=mg∧Good C fs env σ H tf∧QO W C M tf fs env σ H Q (c env)
def tG (K:PySem.W.Frag) (mg:Str→Option Value) (M Vs:List Nat) (g:D→Env→Option Env):TG:=fun v σ H Q=>∃C fs env tf d fp,C.K=K∧C.mg=mg∧Good C fs env σ H (fp++tf)∧Rep C H d v fp∧Qi C M Vs tf fs env σ H Q (g d env)
section
variable {X:Cx} {W:WX} {M M1 M2 M3 M4 V1 V2 V3 Rs R1 R2 R3:List Nat} {e a b c tg:Expr} {es ifs:List Expr} {ca cb cc:CE} {cs src:CA} {ct:CT} {pos p:Pos} {g:D→Env→Option Env}
theorem SO.canon (h:SO X W M e ca):PE X e (tO X.K X.mg W M ca):=by
 obtain⟨t,p,q⟩:=h.go
 exact⟨fun pins s σ H Q I ⟨C,fs,env,tf,h1,h2,G,po⟩=>p.run pins s σ H Q I (q C fs env σ H tf Q ⟨h1,h2⟩ G po)⟩
theorem SG.canon (h:SG X M V1 tg g):PG X tg (tG X.K X.mg M V1 g):=by
 obtain⟨t,p,q⟩:=h.go
 exact⟨fun pins s σ H v u Q I r ⟨C,fs,env,tf,d,fp,h1,h2,G,rr,po⟩=>p.run pins s σ H v u Q I r (q C fs env σ H tf Q d v fp ⟨h1,h2⟩ G rr po)⟩
structure STs (X:Cx) (W:WX) (M:List Nat) (ifs:List Expr) (ct:CT):Prop where
 go:PTs X ifs (tT X.K X.mg W M ct)
def cYes:CT:=fun env=>.ok true env
theorem Qd:STs X W [] [] cYes :=
 ⟨⟨fun pins s σ H Q I ⟨C,fs,env,tf,h1,h2,G,po⟩=>pts_nil.run pins s σ H Q I (po fs H G .refl)⟩⟩
theorem Jct (h:ST X W M c ct):STs X W M [c] ct:=by
 obtain⟨t,p,q⟩:=h.go
 exact⟨⟨fun pins s σ H Q I ⟨C,fs,env,tf,h1,h2,G,po⟩=>(pts_one p).run pins s σ H Q I (q C fs env σ H tf Q ⟨h1,h2⟩ G po)⟩⟩
def YB (env:Env):List Nat→Env
 | []=>env
 | v::vs=>(YB env vs).set v none
def Zb (fs:FPs):List Nat→FPs
 | []=>fs
 | v::vs=>(Zb fs vs).set v []
def Uv (env1 env:Env):List Nat→Env
 | []=>env
 | v::vs=>(Uv env1 env vs).set v (env1.getD v none)
theorem UL {σ:St} {i:Nat}:∀{vs:List Nat},(wipe σ vs)[i]?=if i∈vs then (σ[i]?).map (fun _=>none) else σ[i]?
 | []=>by simp[wipe]
 | v::vs=>by
  unfold wipe
  rw[List.getElem?_set]
  by_cases hv:v=i
  ·subst hv
   rw[if_pos rfl,wipe_length,if_pos (show v∈v::vs by simp)]
   by_cases hl:v < σ.length
   ·rw[if_pos hl];simp[hl]
   ·rw[if_neg hl,List.getElem?_eq_none (by omega)];rfl
  ·rw[if_neg hv,UL (vs:=vs)]
   have:(i∈v::vs)↔i∈vs:=by simp[Ne.symm hv]
   simp only[this]
theorem QB {σ:Env} {i:Nat}:∀{vs:List Nat},(YB σ vs)[i]?=if i∈vs then (σ[i]?).map (fun _=>none) else σ[i]?
 | []=>by simp[YB]
 | v::vs=>by
  have hl:∀vs:List Nat,(YB σ vs).length=σ.length:=fun vs=>by
   induction vs with
   | nil=>rfl
   | cons v vs ih=>unfold YB;rw[List.length_set,ih]
  unfold YB
  rw[List.getElem?_set]
  by_cases hv:v=i
  ·subst hv
   rw[if_pos rfl,hl,if_pos (show v∈v::vs by simp)]
   by_cases hl:v < σ.length
   ·rw[if_pos hl];simp[hl]
   ·rw[if_neg hl,List.getElem?_eq_none (by omega)];rfl
  ·rw[if_neg hv,QB (vs:=vs)]
   have:(i∈v::vs)↔i∈vs:=by simp[Ne.symm hv]
   simp only[this]
theorem JaX {σ:FPs}:∀vs:List Nat,(Zb σ vs).length=σ.length
 | []=>rfl
 | v::vs=>by unfold Zb;rw[List.length_set,JaX vs]
theorem QA {e1 σ:Env}:∀vs:List Nat,(Uv e1 σ vs).length=σ.length
 | []=>rfl
 | v::vs=>by unfold Uv;rw[List.length_set,QA vs]
theorem Qx {e1 σ:Env} {i:Nat}:∀{vs:List Nat},(Uv e1 σ vs)[i]?=if i∈vs then (σ[i]?).map (fun _=>e1.getD i none) else σ[i]?
 | []=>by simp[Uv]
 | v::vs=>by
  unfold Uv
  rw[List.getElem?_set]
  by_cases hv:v=i
  ·subst hv
   rw[if_pos rfl,QA,if_pos (show v∈v::vs by simp)]
   by_cases hl:v < σ.length
   ·rw[if_pos hl];simp[hl]
   ·rw[if_neg hl,List.getElem?_eq_none (by omega)];rfl
  ·rw[if_neg hv,Qx (vs:=vs)]
   have:(i∈v::vs)↔i∈vs:=by simp[Ne.symm hv]
   simp only[this]
theorem UK {fs:FPs} {i:Nat}:∀{vs:List Nat},(Zb fs vs).getD i []=if i∈vs then [] else fs.getD i []
 | []=>by simp[Zb]
 | v::vs=>by
  unfold Zb
  by_cases hv:v=i
  ·subst hv
   rw[if_pos (by simp),List.getD_eq_getElem?_getD,List.getElem?_set]
   rw[if_pos rfl]
   split<;>rfl
  ·rw[List.getD_eq_getElem?_getD,List.getElem?_set,if_neg hv,←List.getD_eq_getElem?_getD,UK (vs:=vs)]
   have:(i∈v::vs)↔i∈vs:=by simp[Ne.symm hv]
   simp only[this]
theorem wipe_eq {σ3 σ:St} {vs:List Nat} (hl:σ3.length=σ.length) (h:∀i,i∉vs→σ3[i]?=(wipe σ vs)[i]?):wipe σ3 vs=wipe σ vs:=by
 refine List.ext_getElem? fun i=>?_
 by_cases hi:i∈vs
 ·rw[UL,UL,if_pos hi,if_pos hi]
  by_cases h1:i < σ.length
  ·simp[h1,hl]
  ·rw[List.getElem?_eq_none (by omega),List.getElem?_eq_none (by omega)]
 ·have:=h i hi
  rw[UL,if_neg hi,this]
variable {pins:List (Addr × Obj)} {σ σ':St} {H H1 H2 H':Hp} {s:Shared} {C C':Ctx} {fs fs1 fs2:FPs} {env env1 env2:Env} {tf tf' own:List Addr}
theorem Good.sig (G:Good C fs env σ H tf) (hl:σ'.length=σ.length) (h:∀(i:Nat) (d:D),env[i]?=some (some d)→σ'[i]?=σ[i]?):Good C fs env σ' H tf :=
 ⟨by rw[hl];exact G.le,by rw[hl];exact G.lf,fun i d e=>by rw[h i d e];exact G.rep i d e,G.nd,G.own,G.trk,G.fr,G.lk⟩
theorem Good.wipeK (G:Good C fs env σ H tf):∀vs:List Nat,Good C (Zb fs vs) (YB env vs) σ H tf
 | []=>G
 | v::vs=>(G.wipeK vs).kill v
theorem Good.wipe (G:Good C fs env σ H tf) (vs:List Nat):Good C (Zb fs vs) (YB env vs) (wipe σ vs) H tf :=
 (G.wipeK vs).sig (wipe_length σ vs) fun i d e=>by
  rw[QB]at e
  by_cases hi:i∈vs
  ·rw[if_pos hi]at e
   cases h:env[i]?<;>rw[h]at e<;>simp at e
  ·rw[UL,if_neg hi]
theorem Step.wipe:∀vs:List Nat,Step vs tf fs env H (Zb fs vs) (YB env vs) H:=fun vs =>
 ⟨fun _ _=>rfl,fun i hi=>by rw[UK,if_neg hi],fun i hi=>by rw[QB,if_neg hi],fun _ _ _ _=>rfl,.refl H⟩
theorem Good.back {vs:List Nat} (G:Good C fs env (L2.wipe σ vs) H tf) (hr:∀i,i∈vs→∀d,env1[i]?=some (some d)→∃v,σ[i]?=some (some v)∧Rep C H d v []):Good C (Zb fs vs) (Uv env1 env vs) σ H tf:=by
 have Gw:=G.wipeK vs
 refine⟨?_,?_,fun i d e=>?_,Gw.nd,Gw.own,Gw.trk,Gw.fr,Gw.lk⟩
 ·rw[QA,G.le,wipe_length]
 ·rw[JaX,G.lf,wipe_length]
 ·rw[Qx]at e
  by_cases hi:i∈vs
  ·rw[if_pos hi]at e
   obtain⟨x,_,e2⟩:=Option.map_eq_some_iff.mp e
   have e3:env1[i]?=some (some d):=by
    rw[List.getD_eq_getElem?_getD]at e2
    cases h:env1[i]? with
    | none=>rw[h]at e2;cases e2
    | some y=>rw[h]at e2;simp at e2;rw[e2]
   obtain⟨v,h1,h2⟩:=hr i hi d e3
   exact⟨v,h1,by rw[UK,if_pos hi];exact h2⟩
  ·rw[if_neg hi]at e
   obtain⟨v,h1,h2⟩:=G.rep i d e
   rw[UL,if_neg hi]at h1
   exact⟨v,h1,by rw[UK,if_neg hi];exact h2⟩
theorem Jam {q:Addr} {o o':HO} (h:H q=some o) (mu:Mutb o):Mono H (upd H q o'):=Mono.upd h mu
theorem Good.updT {q:Addr} {o o':HO} (G:Good C fs env σ H (q::tf)) (h:H q=some o) (mu:Mutb o) (mu':Mutb o'):Good C fs env σ (upd H q o') (q::tf):=by
 have hn:∀i,q∉fs.getD i []:=fun i hi=>G.apartT hi (by simp)
 refine⟨G.le,G.lf,fun i d e=>?_,G.nd,G.own,fun a ha=>?_,fun a o2 e na=>?_,fun a ha=>?_⟩
 ·obtain⟨v,h1,h2⟩:=G.rep i d e
  exact⟨v,h1,h2.keep (fun a ha=>upd_ne fun z=>hn i (z ▸ ha)) (Jam h mu)⟩
 ·by_cases hq:a=q
  ·subst hq;exact⟨o',upd_same,mu'⟩
  ·obtain⟨o2,h1,h2⟩:=G.trk a ha;exact⟨o2,by rw[upd_ne hq];exact h1,h2⟩
 ·have hq:a≠q:=fun z=>by
   subst z
   rcases G.own a (by simp) with z | z
   ·exact na z
   ·rw[z]at e;cases e
  rw[upd_ne hq];exact G.fr a o2 e na
 ·obtain⟨ob,u,e⟩:=G.lk a ha
  have hq:a≠q:=fun z=>by subst z;rw[h]at e;cases e;exact mu
  exact⟨ob,u,by rw[upd_ne hq];exact e⟩
theorem Step.updT {q:Addr} {o o':HO} (G:Good C fs env σ H (q::tf)) (h:H q=some o) (mu:Mutb o):Step [] tf fs env H fs env (upd H q o'):=by
 have nd:=(List.nodup_append.mp G.nd).2.1
 refine⟨fun a ha=>upd_ne fun z=>?_,fun _ _=>rfl,fun _ _=>rfl,fun i _ a ha=>upd_ne fun z=>G.apartT (z ▸ ha) (by simp),Jam h mu⟩
 subst z
 exact(List.nodup_cons.mp nd).1 ha
def YT (vs:List Nat) (g:D→Env→Option Env) (ct:CT) (ce:CE):List D→Env→Option (List D × Env)
 | [],env=>some ([],env)
 | d::ds,env=>match g d env with
  | none=>none
  | some env1=>if env1.length=env.length then (match ct env1 with
   | .ok true env2=>(match ce env2 with
    | .ok y env3=>(YT vs g ct ce ds (YB env3 vs)).map fun r=>(y::r.1,r.2)
    | _=>none)
   | .ok false env2=>YT vs g ct ce ds (YB env2 vs)
   | _=>none) else none
def ZM (env:Env) (vs:List Nat):Bool:=vs.all fun i=>match env[i]? with
 | some (some d)=>d.imm
 | _=>true
def cLc (src:CA) (vs:List Nat) (g:D→Env→Option Env) (ct:CT) (ce:CE):CE:=fun env=>(src env).bind fun ds env1 =>
 if ZM env1 vs=true∧ds.length≤sizeLine then (match YT vs g ct ce ds (YB env1 vs) with
  | some r=>.ok (.lst .m r.1) (Uv env1 r.2 vs)
  | none=>.err) else .err
abbrev W0:WX:=fun _ _ _ _=>False
theorem Jdy {ce:CE} {vs:List Nat} {t:TI} (q:∀C fs env σ H tf Q,C.At X→Good C fs env σ H tf→QP W C M1 R1 tf fs env σ H Q (src env)→t σ H Q) (hd:djB R1 (vs++(M2++(M3++M4)))=true) (hV:(V2.all fun i=>vs.contains i)=true) :
  ∀C fs env σ H tf Q,C.At X→Good C fs env σ H tf→JY W C (M1++(vs++(M2++(M3++M4)))) tf fs env σ H Q (cLc src vs g ct ce env)→tLc t (tG X.K X.mg M2 V2 g) (tT X.K X.mg W0 M3 ct) (tO X.K X.mg W0 M4 ce) vs σ H Q:=by
 intro C fs env σ H tf Q hC G po
 show t σ H fun J H1=>_
 refine q C fs env σ H tf _ hC G ?_
 unfold cLc at po
 cases e1:src env with
 | err=>rw[e1]at po;exact po
 | ex x env'=>rw[e1]at po;exact fun cv dd fs' H' G' s=>po cv dd fs' H' G' (s.weak JX fun _ z=>z)
 | ok ds env1 =>
  rw[e1]at po
  intro J fs1 H1 fp own1 G1 s1 src1 i1 Dd hD
  have po1:JY W C (M1++(vs++(M2++(M3++M4)))) tf fs env σ H Q (if ZM env1 vs=true∧ds.length≤sizeLine then (match YT vs g ct ce ds (YB env1 vs) with
   | some r=>.ok (.lst .m r.1) (Uv env1 r.2 vs)
   | none=>.err) else .err):=po
  by_cases hcl:ZM env1 vs=true∧ds.length≤sizeLine
  case neg=>rw[if_neg hcl]at po1;exact po1.elim
  rw[if_pos hcl]at po1
  cases el:YT vs g ct ce ds (YB env1 vs) with
  | none=>rw[el]at po1;exact po1.elim
  | some r =>
   rw[el]at po1
   obtain⟨all,envF⟩:=r
   have po2:=JY.step s1 po1
   have dj:=Yv hd
   have le:=Le.new (o:=.lst []) hD
   have hb:∀i∈vs,∀d,env1[i]?=some (some d)→∃v,σ[i]?=some (some v)∧Rep C H1 d v []:=fun i hi d e=>by
    obtain⟨v,h1,h2⟩:=G1.rep i d e
    have:=(List.all_eq_true.mp hcl.1) i hi
    rw[e]at this
    have z:=h2.imm this
    rw[z]at h2
    exact⟨v,h1,h2⟩
   have sub:∀x∈own1++tf,x∈Dd::(own1++tf):=fun x hx=>List.mem_cons_of_mem _ hx
   refine lc_it (n:=ds.length) src1.walk (fun i H'=>∃fs' env' acc fpa ys ys',Good C fs' env' (wipe σ vs) H' (Dd::(fpa++(own1++tf)))∧H' Dd=some (.lst acc)∧Reps C H' ys acc fpa∧acc.length≤i∧Step (vs++(M2++(M3++M4))) (own1++tf) fs1 env1 H1 fs' env' H'∧YT vs g ct ce (ds.drop i) env'=some (ys',envF)∧all=ys++ys')
    ⟨Zb fs1 vs,YB env1 vs,[],[],[],all,(G1.new (o:=.lst []) hD trivial).wipe vs,upd_same,⟨rfl,rfl⟩,Nat.le_refl _,?_,by simpa using el,rfl⟩ ?_ ?_ ?_
   ·have:=(Step.grow (M:=[]) G1 le).trans (Step.wipe (fs:=fs1) (env:=env1) (tf:=own1++tf) (H:=upd H1 Dd (.lst [])) vs)
    exact this.weak (fun i hi=>List.mem_append_left _ (by simpa using hi)) fun _ z=>z
   ·rintro i H' hi ⟨fs',env',acc,fpa,ys,ys',G',hD',rs,hl,s',_,_⟩
    exact⟨G'.fr,s'.m,i1.keep s' dj⟩
   ·rintro i x H' H2 hi ⟨fs',env',acc,fpa,ys,ys',G',hD',rs,hl,s',hrun,hall⟩ ⟨le2,d,hd',rd⟩
    have hdrop:ds.drop i=d::ds.drop (i+1):=by
     rw[List.drop_eq_getElem_cons hi]
     obtain⟨_,h⟩:=List.getElem?_eq_some_iff.mp hd'
     rw[h]
    rw[hdrop]at hrun
    unfold YT at hrun
    have G2:=G'.le' le2
    have sA:=s'.trans (Step.grow (M:=[]) (G'.sub (tf':=own1++tf) ((List.sublist_append_right _ _).trans (List.sublist_cons_self _ _))) le2)
    refine⟨C,fs',env',Dd::(fpa++(own1++tf)),d,[],hC.1,hC.2,G2,rd,?_⟩
    cases eg:g d env' with
    | none=>rw[eg]at hrun;cases hrun
    | some e2 =>
     rw[eg]at hrun
     simp only at hrun
     by_cases hlen:e2.length=env'.length
     case neg=>rw[if_neg hlen]at hrun;cases hrun
     rw[if_pos hlen]at hrun
     intro fs3 σ3 H3 G3 s3
     have hw:wipe σ3 vs=wipe σ vs:=by
      refine wipe_eq ?_ fun j hj=>s3.v j fun hj2=>hj ?_
      ·rw[←G3.le,hlen,G2.le,wipe_length]
      ·have:=(List.all_eq_true.mp hV) j hj2
       simpa using this
     refine⟨hw,C,fs3,e2,Dd::(fpa++(own1++tf)),hC.1,hC.2,G3,?_⟩
     have sB:=sA.trans (s3.s.weak (fun _ z=>z) (tf':=own1++tf) fun y hy=>List.mem_cons_of_mem _ (List.mem_append_right _ hy))
     have fin:∀{fs5:FPs} {e5:Env} {H5:Hp} {acc' fpa' ys1 ys2},Good C fs5 e5 σ3 H5 (Dd::(fpa'++(own1++tf)))→H5 Dd=some (.lst acc')→Reps C H5 ys1 acc' fpa'→acc'.length≤i+1→Step (M3++M4) (own1++tf) fs3 e2 H3 fs5 e5 H5→YT vs g ct ce (ds.drop (i+1)) (YB e5 vs)=some (ys2,envF)→all=ys1++ys2 →
       ∃fs' env' acc fpa ys ys',Good C fs' env' (wipe σ vs) H5 (Dd::(fpa++(own1++tf)))∧H5 Dd=some (.lst acc)∧Reps C H5 ys acc fpa∧acc.length≤i+1∧Step (vs++(M2++(M3++M4))) (own1++tf) fs1 env1 H1 fs' env' H5∧YT vs g ct ce (ds.drop (i+1)) env'=some (ys',envF)∧all=ys++ys':=fun {fs5 e5 H5 acc' fpa' ys1 ys2} G5 h5 r5 l5 s5 h6 h7=>by
      have Gw:=G5.wipe vs
      rw[hw]at Gw
      refine⟨_,_,acc',fpa',ys1,ys2,Gw,h5,r5,l5,?_,h6,h7⟩
      have:=(sB.trans s5).trans (Step.wipe (fs:=fs5) (env:=e5) (tf:=own1++tf) (H:=H5) vs)
      refine this.weak (fun j hj=>?_) fun _ z=>z
      simp only[List.mem_append,List.not_mem_nil,or_false]at hj ⊢
      rcases hj with ((h | h) | h) | h
      ·exact h
      ·exact .inr (.inl h)
      ·exact .inr (.inr h)
      ·exact .inl h
     have r3:Reps C H3 ys acc fpa:=(rs.le le2).keep (fun a ha=>s3.s.t a (by simp[ha])) s3.s.m
     have hD3:H3 Dd=some (.lst acc):=by rw[s3.s.t Dd (by simp)];exact le2 _ _ hD'
     cases et:ct e2 with
     | err=>rw[et]at hrun;cases hrun
     | ex x e3=>rw[et]at hrun;cases hrun
     | ok b e3 =>
      rw[et]at hrun
      intro fs4 H4 G4 s4
      have r4:Reps C H4 ys acc fpa:=r3.keep (fun a ha=>s4.t a (by simp[ha])) s4.m
      have hD4:H4 Dd=some (.lst acc):=by rw[s4.t Dd (by simp)];exact hD3
      have s4':=s4.weak (fun _ z=>z) (tf':=own1++tf) fun y hy=>List.mem_cons_of_mem _ (List.mem_append_right _ hy)
      cases b with
      | false =>
       rw[if_neg (by simp)]
       exact fin G4 hD4 r4 (by omega) (s4'.weak JX fun _ z=>z) hrun hall
      | true =>
       rw[if_pos rfl]
       refine⟨C,fs4,e3,Dd::(fpa++(own1++tf)),hC.1,hC.2,G4,?_⟩
       simp only at hrun
       cases ee:ce e3 with
       | err=>rw[ee]at hrun;cases hrun
       | ex x e4=>rw[ee]at hrun;cases hrun
       | ok y e4 =>
        rw[ee]at hrun
        obtain⟨⟨zs,eF⟩,h1,h2⟩:=Option.map_eq_some_iff.mp hrun
        cases h2
        intro v fs5 H5 fp5 G5 s5 r5
        have hD5:H5 Dd=some (.lst acc):=by rw[s5.t Dd (by simp)];exact hD4
        have ra:Reps C H5 ys acc fpa:=r4.keep (fun a ha=>s5.t a (by simp[ha])) s5.m
        have pm:(Dd::((fpa++fp5)++(own1++tf))).Perm (fp5++(Dd::(fpa++(own1++tf)))):=by
         refine List.Perm.trans (List.Perm.cons _ ?_) (List.perm_middle.symm)
         rw[List.append_assoc]
         exact List.perm_append_comm_assoc _ _ _
        have G6:=G5.perm pm
        have nd6:=(List.nodup_append.mp G6.nd).2.1
        have hnot:Dd∉fpa++fp5:=fun z=>(List.nodup_cons.mp nd6).1 (List.mem_append_left _ z)
        refine⟨acc,hD5,by have:=hcl.2;omega,?_⟩
        have mo:=Jam (o':=.lst (acc++[v])) hD5 trivial
        have kp:∀a∈fpa++fp5,(upd H5 Dd (.lst (acc++[v]))) a=H5 a:=fun a ha=>upd_ne fun z=>hnot (z ▸ ha)
        have G7:=G6.updT (o':=.lst (acc++[v])) hD5 trivial trivial
        refine fin (ys1:=ys++[y]) (ys2:=zs) G7 upd_same (JU (ra.keep (fun a ha=>kp a (List.mem_append_left _ ha)) mo) ⟨v,[],fp5,[],rfl,r5.keep (fun a ha=>kp a (List.mem_append_right _ ha)) mo,⟨rfl,rfl⟩,by simp⟩) (by simp;omega) ?_ h1 (by rw[hall];simp)
        have s5':=s5.weak (fun _ z=>z) (tf':=own1++tf) fun y hy=>List.mem_cons_of_mem _ (List.mem_append_right _ hy)
        have s6:=Step.updT (o':=.lst (acc++[v])) G6 hD5 trivial
        have s6':=s6.weak (fun _ z=>z) (tf':=own1++tf) fun y hy=>List.mem_append_right _ hy
        have:=(s4'.trans s5').trans s6'
        simpa using this
   ·rintro H' ⟨fs',env',acc,fpa,ys,ys',G',hD',rs,hl,s',hrun,hall⟩
    rw[List.drop_length]at hrun
    unfold YT at hrun
    cases hrun
    rw[List.append_nil]at hall
    subst hall
    have Gb:=G'.back (env1:=env1) fun i hi d e=>by
     obtain⟨v,h1,h2⟩:=hb i hi d e
     exact⟨v,h1,h2.keep (fun _ z=>nomatch z) s'.m⟩
    refine po2 (.ref Dd) _ H' (Dd::fpa) (Gb.sub ?_) ?_ ⟨Dd,acc,[Dd],fpa,rfl,⟨hD',rfl⟩,rs,.inl rfl,rfl⟩
    ·refine List.Sublist.cons₂ _ ?_
     exact(List.Sublist.refl fpa).append (List.sublist_append_right _ _)
    ·have sb:Step vs (own1++tf) fs' envF H' (Zb fs' vs) (Uv env1 envF vs) H' :=
      ⟨fun _ _=>rfl,fun i hi=>by rw[UK,if_neg hi],fun i hi=>by rw[Qx,if_neg hi],fun _ _ _ _=>rfl,.refl H'⟩
     refine (s'.trans sb).weak (fun j hj=>?_) fun y hy=>List.mem_append_right _ hy
     simp only[List.mem_append]at hj ⊢
     rcases hj with (h | h) | h
     ·exact .inl h
     ·exact .inr h
     ·exact .inl h
theorem JcM {scope:Scope} {own:List (Str × Nat)} (vs:List Nat) {iter elt:Expr} {ce:CE} (hc:X.calm=true) (hN:X.N.Nodup) (hi:SI X W M1 R1 tg iter src) (ok:BlkOk X.N X.env.scope scope own)
  (hg:∀(s:Shared) (H:Hp) (B:Addr) (cl:List (Str × Addr)) (fp:List Addr),SG (X.blk s H scope (compEnvC scope cl B X.env) fp) M2 V2 tg g)
  (ht:∀(s:Shared) (H:Hp) (B:Addr) (cl:List (Str × Addr)) (fp:List Addr),STs (X.blk s H scope (compEnvC scope cl B X.env) fp) W0 M3 ifs ct)
  (he:∀(s:Shared) (H:Hp) (B:Addr) (cl:List (Str × Addr)) (fp:List Addr),SO (X.blk s H scope (compEnvC scope cl B X.env) fp) W0 M4 elt ce)
  (hvs:own.map (·.2)=vs) (hd:djB R1 (vs++(M2++(M3++M4)))=true) (hV:(V2.all fun i=>vs.contains i)=true) (hs:∀x,foldedSetIterable iter X.env x=pure x) :
  SO X W (M1++(vs++(M2++(M3++M4)))) (.ListComp elt [⟨tg,iter,ifs,0⟩] scope pos) (cLc src vs g ct ce):=by
 subst hvs
 obtain⟨t,p,q⟩:=hi.go
 exact⟨tLc t (tG X.K X.mg M2 V2 g) (tT X.K X.mg W0 M3 ct) (tO X.K X.mg W0 M4 ce) (own.map (·.2)),pe_lc (own:=own) hc hN p ok (fun s H B cl fp=>(hg s H B cl fp).canon) (fun s H B cl fp=>(ht s H B cl fp).go) (fun s H B cl fp=>(he s H B cl fp).canon) hs,Jdy q hd hV⟩
theorem Qf {scope:Scope} {own:List (Str × Nat)} (vs:List Nat) {i:Nat} {y:Str} {py spos:Pos} {iter elt:Expr} {ce:CE} (hc:X.calm=true) (hN:X.N.Nodup) (hi:SI X W M1 R1 tg iter src) (ok:BlkOk X.N X.env.scope scope own)
  (hg:∀(s:Shared) (H:Hp) (B:Addr) (cl:List (Str × Addr)) (fp:List Addr),SG (X.blk s H scope (compEnvC scope cl B X.env) fp) M2 V2 tg g)
  (ht:∀(s:Shared) (H:Hp) (B:Addr) (cl:List (Str × Addr)) (fp:List Addr),STs (X.blk s H scope (compEnvC scope cl B X.env) fp) W0 M3 ifs ct)
  (he:∀(s:Shared) (H:Hp) (B:Addr) (cl:List (Str × Addr)) (fp:List Addr),SO (X.blk s H scope (compEnvC scope cl B X.env) fp) W0 M4 elt ce)
  (hvs:own.map (·.2)=vs) (hd:djB R1 (vs++(M2++(M3++M4)))=true) (hV:(V2.all fun i=>vs.contains i)=true) (hs:∀x,foldedSetIterable iter X.env x=pure x)
  (hy:X.N[i]?=some y) (hyl:X.env.scope.names.lookup y=some .local) (hsw:swapsWith (.ListComp elt [⟨tg,iter,ifs,0⟩] scope pos) (some (.Name y py)) spos.line X.env=pure true) :
  SS X W ((M1++(vs++(M2++(M3++M4))))++[i]) [i] (.Assign [.Name y py] (.ListComp elt [⟨tg,iter,ifs,0⟩] scope pos) spos) (sAsg (cLc src vs g ct ce) (gSet i)):=by
 subst hvs
 obtain⟨t,p,q⟩:=hi.go
 refine⟨tAsg (tLc t (tG X.K X.mg M2 V2 g) (tT X.K X.mg W0 M3 ct) (tO X.K X.mg W0 M4 ce) (own.map (·.2))) (gName i),ps_setLc (own:=own) hc hN hy hyl hsw p ok (fun s H B cl fp=>(hg s H B cl fp).canon) (fun s H B cl fp=>(ht s H B cl fp).go) (fun s H B cl fp=>(he s H B cl fp).canon) hs,fun C fs env σ H tf E hC G po=>?_⟩
 exact Jce (gd:=gSet i) (M2:=[i]) (V2:=[i]) hC G (Jdy q hd hV) (fun C fs env σ H tf Q d v fp hC G r po=>po _ _ _ (G.put r) (StepS.put G)) po
end
end VS
namespace VS
open PySem L2 SeqAt
section
variable {X:Cx} {W:WX} {M M1 M2 M3 M4 V1 V2 V3 Rs R1 R2 R3:List Nat} {e a b c tg:Expr} {es ifs:List Expr} {ca cb cc:CE} {cs src:CA} {ct:CT} {pos p:Pos} {g:D→Env→Option Env}
variable {pins:List (Addr × Obj)} {σ σ':St} {H H1 H2 H':Hp} {s:Shared} {C C':Ctx}
theorem UM.lst {ds:List D} {vs:List V} {f:List Addr} {Q:VK} (k:UM C H (.lst .m ds) Q) (r:Reps C H ds vs f) (hi:imms ds=true) {l:Addr} (hl:H l=none):Q (.ref l) (upd H l (.lst vs)):=by
 have e:=r.imm hi
 subst e
 have le:=Le.new (o:=.lst vs) hl
 exact k (.ref l) _ [l] le ⟨l,vs,[l],[],rfl,⟨upd_same,rfl⟩,r.le le,.inl rfl,rfl⟩ (by simp) fun a ha=>by simp at ha;subst ha;exact hl
theorem UM.tup {ds:List D} {vs:List V} {f:List Addr} {Q:VK} (k:UM C H (.tup ds) Q) (r:Reps C H ds vs f) (hi:imms ds=true) {l:Addr} (hl:H l=none):Q (.ref l) (upd H l (.tup vs)):=by
 have e:=r.imm hi
 subst e
 have le:=Le.new (o:=.tup vs) hl
 exact k (.ref l) _ [] le ⟨l,vs,rfl,SqT.of upd_same,r.le le⟩ .nil fun _ z=>nomatch z
theorem Zr:∀{ds es:List D},imms (ds++es)=(imms ds && imms es)
 | [],es=>by simp[imms]
 | d::ds,es=>by rw[List.cons_append,imms,imms,Zr,Bool.and_assoc]
def JbR:List D→Option D
 | [.lst _ ds]=>if imms ds then some (.lst .m ds) else none
 | [.tup ds]=>if imms ds then some (.lst .m ds) else none
 | _=>none
theorem od_list:ODL X (.type "list") JbR:=by
 refine ODL.of call_list_of fun xs H Q ⟨C,ds,fx,d,hC,hF,rs,e,k⟩=>?_
 unfold JbR at e
 split at e
 ·rename_i g zs
  split at e<;>cases e
  rename_i hi
  obtain⟨v,rfl,r⟩:=YR rs
  obtain⟨a,vs,f,rfl,q,rz⟩:=Jj hC hF r
  exact⟨a,vs,rfl,.inl q,fun l hl=>k.lst rz hi hl⟩
 ·rename_i zs
  split at e<;>cases e
  rename_i hi
  obtain⟨v,rfl,r⟩:=YR rs
  obtain⟨a,vs,rfl,q,rz⟩:=Ju hC r
  exact⟨a,vs,rfl,.inr q,fun l hl=>k.lst rz hi hl⟩
 ·cases e
def Yr:List D→Option D
 | [.lst _ ds]=>if imms ds then some (.tup ds) else none
 | [.tup ds]=>if imms ds then some (.tup ds) else none
 | _=>none
theorem Jap:ODL X (.type "tuple") Yr:=by
 refine ODL.of call_tuple_of fun xs H Q ⟨C,ds,fx,d,hC,hF,rs,e,k⟩=>?_
 unfold Yr at e
 split at e
 ·rename_i g zs
  split at e<;>cases e
  rename_i hi
  obtain⟨v,rfl,r⟩:=YR rs
  obtain⟨a,vs,f,rfl,q,rz⟩:=Jj hC hF r
  exact⟨a,vs,rfl,.inl ⟨q,fun l hl=>k.tup rz hi hl⟩⟩
 ·rename_i zs
  split at e<;>cases e
  rename_i hi
  obtain⟨v,rfl,r⟩:=YR rs
  obtain⟨a,vs,rfl,q,rz⟩:=Ju hC r
  have ez:=rz.imm hi
  subst ez
  exact⟨a,vs,rfl,.inr ⟨q,k.here ⟨a,vs,rfl,by rw[hC.1];exact q,rz⟩⟩⟩
 ·cases e
theorem add_meets (l:Addr) (items:Array Value) (n:Nat) (b:Addr) (items2:Array Value) (n2:Nat) (sl sl2:Array (Option Value)) (hc0:items.size+items2.size≤sizeLine) :
  Meets (Builtin.«list.__add__» ⟨[.ref l,.ref b],[]⟩) (fun _ R s=>s.heap.get? l=some { cls:=.type "list", dict:=none,data:=.seq items n,slots:=sl }∧s.heap.get? b=some { cls:=.type "list", dict:=none,data:=.seq items2 n2,slots:=sl2 }∧R (.ok (.ret (Value.ref s.heap.objs.size))) { s with heap:=s.heap.push { cls:=Value.type "list", data:=Data.seq (items++items2) },toks:=s.toks }) :=
 .of_wp fun prog w A R s h=>by obtain⟨hp,g,d,tk,os⟩:=s;obtain⟨hl,hb,h⟩:=h;have f3:=PySem.AutoSeq1.sub_list_list;wp_walk using PySem.AutoSeq1.wpAny_loadPart' hl,PySem.AutoSeq1.wpAny_loadPart' hb;exact⟨_,rfl,h⟩
theorem add_listP {prog:Program} {w:World} {A:Around} {E:Value→Shared→Prop} {s:Shared} {l b:Addr} {items items2:Array Value} {Q:Value→Shared→Prop} (hl:PlainL s.heap l items) (hb:PlainL s.heap b items2)
  (h:Q (.ref s.heap.objs.size) { s with heap:=s.heap.push { cls:=.type "list", data:=.seq (items++items2) } }) (hsz:items.size+items2.size≤sizeLine):wpAny (model prog w) A (binaryOp .Add (.ref l) (.ref b)) Q E s:=by
 obtain⟨⟨c1,d1,da1,sl1⟩,n1,e1,a1,a2,a3⟩:=hl
 obtain⟨⟨c2,d2,da2,sl2⟩,n2,e2,b1,b2,b3⟩:=hb
 simp only at a1 a2 a3 b1 b2 b3
 subst a1 a2 a3 b1 b2 b3
 exact PySem.concat_meets ⟨_,e1,rfl⟩ ⟨_,e2,rfl⟩ noFill_list_add seq_list_add F.slot_list_add F.entry_list_add (F.args_list_add_2 _ _) (add_meets l items n1 b items2 n2 sl1 sl2 hsz) ⟨e1,e2,h⟩
def Ja7:D→D→Option D
 | .lst _ xs,.lst _ ys=>if imms xs && imms ys && decide (xs.length+ys.length≤sizeLine) then some (.lst .m (xs++ys)) else none
 | _,_=>none
theorem od_catL:OD2 X (binaryOp .Add) Ja7:=by
 intro pins s σ H x y v u Q I rx ry ⟨C,dx,dy,fx,fy,d,hC,hF,r1,r2,e,k⟩
 unfold Ja7 at e
 split at e
 ·rename_i g xs g' ys
  split at e<;>cases e
  rename_i hi
  simp only[Bool.and_eq_true,decide_eq_true_eq]at hi
  obtain⟨⟨h1,h2⟩,h3⟩:=hi
  obtain⟨a,vs,f,rfl,q,rz⟩:=Jj hC hF r1
  obtain⟨b,ws,f',rfl,q',rz'⟩:=Jj hC hF r2
  cases rx
  cases ry
  obtain⟨its,r,pl,hz⟩:=I.list q
  obtain⟨its2,r',pl2,hz2⟩:=I.list q'
  have l1:=Je rz
  have l2:=Je rz'
  have m1:=r.length
  have m2:=r'.length
  refine add_listP pl pl2 ?_ (by rw[List.size_toArray,List.size_toArray];omega)
  have ea:its.toArray++its2.toArray=(its++its2).toArray:=by simp
  rw[ea]
  exact⟨.ref _,_,I.lnew (t':=s.toks) (r.append r') (by rw[List.length_append];omega),rfl,k.lst (JU rz rz') (by rw[Zr,h1,h2];rfl) I.fresh⟩
 ·cases e
end
end VS
namespace VS
open PySem L2 SeqAt
section
variable {X:Cx} {W:WX} {M M1 M2 M3 M4 V1 V2 V3 Rs R1 R2 R3:List Nat} {e a b c tg:Expr} {es ifs:List Expr} {ca cb cc:CE} {cs src:CA} {ct:CT} {pos p:Pos} {g:D→Env→Option Env}
variable {pins:List (Addr × Obj)} {σ σ':St} {H H1 H2 H':Hp} {s:Shared} {C C':Ctx}
def JaU:D→D→Option D
 | .tup xs,.tup ys=>if imms xs && imms ys && decide (xs.length+ys.length≤sizeLine) then some (.tup (xs++ys)) else none
 | _,_=>none
theorem od_catT:OD2 X (binaryOp .Add) JaU:=by
 refine OD2.of op_catA fun x y H Q ⟨C,dx,dy,fx,fy,d,hC,hF,r1,r2,e,k⟩=>?_
 unfold JaU at e
 split at e
 ·rename_i xs ys
  split at e<;>cases e
  rename_i hi
  simp only[Bool.and_eq_true,decide_eq_true_eq]at hi
  obtain⟨⟨h1,h2⟩,h3⟩:=hi
  obtain⟨a,vs,rfl,q,rz⟩:=Ju hC r1
  obtain⟨b,ws,rfl,q',rz'⟩:=Ju hC r2
  have l1:=Je rz
  have l2:=Je rz'
  have ez:=rz.imm h1
  have ez':=rz'.imm h2
  subst ez ez'
  refine⟨a,b,vs,ws,rfl,rfl,q,q',by omega,fun e0=>?_,fun e0 e1=>?_,fun e0 e1 p hp=>k.tup (JU rz rz') (by rw[Zr,h1,h2];rfl) hp⟩
  ·subst e0
   cases xs with
   | nil=>exact k.here ⟨b,ws,rfl,by rw[hC.1];exact q',rz'⟩
   | cons x xs=>simp at l1
  ·subst e1
   cases ys with
   | nil=>rw[List.append_nil]at k;exact k.here ⟨a,vs,rfl,by rw[hC.1];exact q,rz⟩
   | cons x xs=>simp at l2
 ·cases e
def JaO:D→D→Option D
 | .str x,.str y=>if x.length+y.length≤sizeLine then some (.str (x++y)) else none
 | _,_=>none
theorem od_catS:OD2 X (binaryOp .Add) JaO:=by
 refine OD2.of op_add_str fun x y H Q ⟨C,dx,dy,fx,fy,d,hC,hF,r1,r2,e,k⟩=>?_
 unfold JaO at e
 split at e
 ·split at e<;>cases e
  rename_i hz
  obtain⟨rfl,_⟩:=r1
  obtain⟨rfl,_⟩:=r2
  exact⟨_,_,rfl,rfl,hz,k.here ⟨rfl,rfl⟩⟩
 ·cases e
def pAdd:D→D→Option D:=orP2 JcY (orP2 Ja7 (orP2 JaU JaO))
theorem YK:OD2 X (binaryOp .Add) pAdd:=OD2.or od_addI (OD2.or od_catL (OD2.or od_catT od_catS))
def bls:List D→Option (List Bool)
 | []=>some []
 | .bl b::ds=>(bls ds).map (b::·)
 | _=>none
def ZU:List D→Option (List Str)
 | []=>some []
 | .str b::ds=>(ZU ds).map (b::·)
 | _=>none
theorem Jb6:∀{ds:List D} {bs:List Str} {vs:List V} {f:List Addr},ZU ds=some bs→Reps C H ds vs f→vs=bs.map V.str
 | [],bs,vs,f,h,r=>by cases h;exact r.1
 | d::ds,bs,vs,f,h,⟨v,vs',f1,f2,e,r,rs,_⟩=>by
  cases d<;>simp only[ZU]at h<;>try cases h
  obtain⟨bs',h1,rfl⟩:=Option.map_eq_some_iff.mp h
  rw[e,Jb6 h1 rs,r.1];rfl
@[simp] theorem bls_bls:∀ns:List Bool,bls (ns.map D.bl)=some ns
 | []=>rfl
 | n::ns=>by simp[bls,bls_bls ns]
@[simp] theorem JaC:∀ns:List Str,ZU (ns.map D.str)=some ns
 | []=>rfl
 | n::ns=>by simp[ZU,JaC ns]
theorem JaL {C:Ctx} {H:Hp}:∀ns:List Str,Reps C H (ns.map D.str) (ns.map V.str) []
 | []=>⟨rfl,rfl⟩
 | n::ns=>⟨.str n,ns.map V.str,[],[],rfl,⟨rfl,rfl⟩,JaL ns,rfl⟩
@[simp] theorem Qw:∀ns:List Str,imms (ns.map D.str)=true
 | []=>rfl
 | n::ns=>by simp[Qw ns]
def cutD (xs:List D) (lo hi:Option Int):List D:=(xs.drop (HT.sIx xs.length 0 lo)).take (HT.sIx xs.length xs.length hi - HT.sIx xs.length 0 lo)
theorem Ja6:∀{ds:List D} {vs:List V} {f:List Addr} (n:Nat),Reps C H ds vs f→∃g1 g2,f=g1++g2∧Reps C H (ds.drop n) (vs.drop n) g2
 | ds,vs,f,0,r=>⟨[],f,rfl,r⟩
 | [],vs,f,n+1,r=>by obtain⟨h1,h2⟩:=r;subst h1;exact⟨[],f,rfl,by simpa using ⟨rfl,h2⟩⟩
 | d::ds,vs,f,n+1,⟨v,vs',f1,f2,e,r,rs,e2⟩=>by
  obtain⟨g1,g2,h1,h2⟩:=Ja6 n rs
  subst e e2 h1
  exact⟨f1++g1,g2,by simp,by simpa using h2⟩
theorem Ja2:∀{ds:List D} {vs:List V} {f:List Addr} (n:Nat),Reps C H ds vs f→∃g1 g2,f=g1++g2∧Reps C H (ds.take n) (vs.take n) g1
 | ds,vs,f,0,r=>⟨[],f,rfl,rfl,rfl⟩
 | [],vs,f,n+1,r=>by obtain⟨h1,h2⟩:=r;subst h1;exact⟨f,[],by simp,by simpa using ⟨rfl,h2⟩⟩
 | d::ds,vs,f,n+1,⟨v,vs',f1,f2,e,r,rs,e2⟩=>by
  obtain⟨g1,g2,h1,h2⟩:=Ja2 n rs
  subst e e2 h1
  exact⟨f1++g1,g2,by simp,v,vs'.take n,f1,g1,by simp,r,h2,rfl⟩
theorem JbP {ds:List D} {vs:List V} (lo hi:Option Int) (r:Reps C H ds vs []):Reps C H (cutD ds lo hi) (cutV vs lo hi) []:=by
 unfold cutD cutV
 rw[Je r]
 obtain⟨g1,g2,h1,h2⟩:=Ja6 (HT.sIx vs.length 0 lo) r
 have hg:g2=[]:=(List.append_eq_nil_iff.mp h1.symm).2
 subst hg
 obtain⟨g3,g4,h3,h4⟩:=Ja2 (HT.sIx vs.length vs.length hi - HT.sIx vs.length 0 lo) h2
 have hg:g3=[]:=(List.append_eq_nil_iff.mp h3.symm).1
 subst hg
 exact h4
theorem Us:∀{ds es:List D},es.Sublist ds→imms ds=true→imms es=true
 | _,_,.slnil,_=>rfl
 | _,_,.cons a h,hi=>Us h (by simp only[imms,Bool.and_eq_true]at hi;exact hi.2)
 | _,_,.cons₂ a h,hi=>by simp only[imms,Bool.and_eq_true]at hi ⊢;exact⟨hi.1,Us h hi.2⟩
theorem JbU (ds:List D) (lo hi:Option Int):(cutD ds lo hi).Sublist ds:=(List.take_sublist _ _).trans (List.drop_sublist _ _)
def pSl:D→Option Int→Option Int→Option D
 | .lst _ ds,lo,hi=>if imms ds then some (.lst .m (cutD ds lo hi)) else none
 | .tup ds,lo,hi=>if imms ds then some (.tup (cutD ds lo hi)) else none
 | .str z,lo,hi=>if z.length≤sizeLine then some (.str (cutS z lo hi)) else none
 | _,_,_=>none
def rSlD (X:Cx):V→Option Int→Option Int→Hp→VK→Prop:=fun x lo hi H Q=>rSlL X.K x lo hi H Q∨(rSlA X.K x lo hi H Q∨rSlS x lo hi H Q)
theorem sl_any:SlR X (rSlD X):=sl_list.or (sl_tupA.or sl_str)
theorem sl_ok {d r:D} {v:V} {fp:List Addr} {lo hi:Option Int} {Q:VK} (hC:C.At X) (hF:Fr C H) (rp:Rep C H d v fp) (h:pSl d lo hi=some r) (k:UM C H r Q):rSlD X v lo hi H Q:=by
 unfold pSl at h
 split at h
 ·rename_i g ds
  split at h<;>cases h
  rename_i hi'
  obtain⟨a,vs,f,rfl,q,rz⟩:=Jj hC hF rp
  have:=rz.imm hi';subst this
  exact .inl ⟨a,vs,rfl,q,fun p hp=>k.lst (JbP lo hi rz) (Us (JbU _ _ _) hi') hp⟩
 ·rename_i ds
  split at h<;>cases h
  rename_i hi'
  obtain⟨a,vs,rfl,q,rz⟩:=Ju hC rp
  have:=rz.imm hi';subst this
  refine .inr (.inl ⟨a,vs,rfl,q,fun hw=>?_,fun hw p hp=>k.tup (JbP lo hi rz) (Us (JbU _ _ _) hi') hp⟩)
  have hl:=Je rz
  have e:cutD ds lo hi=ds:=by
   unfold cutD
   rw[hl,hw.1,hw.2,←hl];simp
  rw[e]at k
  exact k.here ⟨a,vs,rfl,by rw[hC.1];exact q,rz⟩
 ·rename_i z
  split at h<;>cases h
  rename_i hz
  obtain⟨rfl,_⟩:=rp
  exact .inr (.inr ⟨z,rfl,hz,k.here ⟨rfl,rfl⟩⟩)
 ·cases h
structure SPt (X:Cx) (W:WX) (M:List Nat) (e:Option Expr) (c:Env→R (Option Int)):Prop where
 go:∃t,PO X e t∧∀C fs env σ H tf Q,C.At X→Good C fs env σ H tf→(match c env with
  | .ok o env'=>∀fs' H',Good C fs' env' σ H' tf→Step M tf fs env H fs' env' H'→Q o H'
  | .ex x env'=>∀cv dd fs' H',Good C fs' env' σ H' tf→Step M tf fs env H fs' env' H'→ExIs C x cv dd H'→W cv dd σ H'
  | .err=>False)→t σ H Q
def pNo:Env→R (Option Int):=fun env=>.ok none env
def pAt (c:CE):Env→R (Option Int):=fun env=>(c env).bind fun d env=>match d with
 | .int i=>.ok (some i) env
 | _=>.err
theorem JbZ:SPt X W [] none pNo:=⟨tNoPart,po_none,fun C fs env σ H tf Q hC G po=>po fs H G .refl⟩
theorem Jb2 (h:SB X W M Rs e ca):SPt X W M (some e) (pAt ca):=by
 obtain⟨t,p,q⟩:=h.go
 refine⟨tPart t,po_some p,fun C fs env σ H tf Q hC G po=>?_⟩
 show t σ H fun x H1=>∃i,x=.int i∧Q (some i) H1
 refine q C fs env σ H tf _ hC G ?_
 unfold pAt at po
 cases e1:ca env with
 | err=>rw[e1]at po;exact po
 | ex x env'=>rw[e1]at po;exact po
 | ok d env' =>
  rw[e1]at po
  intro v fs' H' fp own G' s r i1
  cases d with
  | int i=>obtain⟨rfl,_⟩:=r;exact⟨i,rfl,po fs' H' G'.drop s⟩
  | _=>exact po.elim
def cSl (ca:CE) (lo hi:Env→R (Option Int)):CE:=fun env=>(ca env).bind fun d env=>(lo env).bind fun l env=>(hi env).bind fun h env=>R.of (pSl d l h) env
theorem Zg {p2:Pos} {lo hi:Option Expr} {cl ch:Env→R (Option Int)} (ha:SB X W M1 R1 a ca) (hl:SPt X W M2 lo cl) (hh:SPt X W M3 hi ch) (hd:djB R1 (M2++M3)=true):SO X W (M1++(M2++M3)) (.Subscript a (.Slice lo hi none p2) pos) (cSl ca cl ch):=by
 obtain⟨t,p,q⟩:=ha.go
 obtain⟨t2,p2',q2⟩:=hl.go
 obtain⟨t3,p3,q3⟩:=hh.go
 refine⟨tSl (rSlD X) t t2 t3,pe_slice sl_any p p2' p3,fun C fs env σ H tf Q hC G po=>?_⟩
 show t σ H fun x H1=>t2 σ H1 fun l H2=>t3 σ H2 fun u H3=>rSlD X x l u H3 Q
 have dj:=Yv hd
 refine q C fs env σ H tf _ hC G ?_
 unfold cSl at po
 cases e1:ca env with
 | err=>rw[e1]at po;exact po
 | ex x env'=>rw[e1]at po;exact fun cv dd fs' H' G' s=>po cv dd fs' H' G' (s.weak JX fun _ z=>z)
 | ok d env1 =>
  rw[e1]at po
  intro v fs1 H1 fp own G1 s1 r1 i1
  have po1:=JY.step s1 po
  refine q2 C fs1 env1 σ H1 (own++tf) _ hC G1 ?_
  simp only[R.bind]at po1
  cases e2:cl env1 with
  | err=>rw[e2]at po1;exact po1
  | ex x env'=>rw[e2]at po1;exact fun cv dd fs' H' G' s=>po1 cv dd fs' H' G'.drop (s.weak JX fun x hx=>List.mem_append_right _ hx)
  | ok l env2 =>
   rw[e2]at po1
   intro fs2 H2 G2 s2
   have s2':=s2.weak (fun _ z=>z) (tf':=tf) fun x hx=>List.mem_append_right _ hx
   have po2:=JY.step s2' po1
   refine q3 C fs2 env2 σ H2 (own++tf) _ hC G2 ?_
   simp only at po2
   cases e3:ch env2 with
   | err=>rw[e3]at po2;exact po2
   | ex x env'=>rw[e3]at po2;exact fun cv dd fs' H' G' s=>po2 cv dd fs' H' G'.drop (s.weak (fun _ z=>z) fun x hx=>List.mem_append_right _ hx)
   | ok h env3 =>
    rw[e3]at po2
    intro fs3 H3 G3 s3
    have s23:=s2.trans s3
    have r3:Rep C H3 d v fp:=r1.keep (i1.keep s23 dj) s23.m
    simp only[R.of]at po2
    cases e4:pSl d l h with
    | none=>rw[e4]at po2;exact po2.elim
    | some r =>
     rw[e4]at po2
     have s3':=s3.weak (fun _ z=>z) (tf':=tf) fun x hx=>List.mem_append_right _ hx
     exact sl_ok hC G3.fr r3 e4 (Ym (own:=own) G3 s3' po2)
end
end VS
namespace VS
open PySem L2 SeqAt RZ
section
variable {X:Cx} {W:WX} {M M1 M2 M3 M4 V1 V2 V3 Rs R1 R2 R3:List Nat} {e a b c tg:Expr} {es ifs:List Expr} {ca cb cc:CE} {cs src:CA} {ct:CT} {pos p:Pos} {g:D→Env→Option Env}
variable {pins:List (Addr × Obj)} {σ σ':St} {H H1 H2 H':Hp} {s:Shared} {C C':Ctx}
theorem Jdt {t1 t2:TI} (h1:PI X tg e t1) (h2:PI X tg e t2):PI X tg e (fun σ H R=>t1 σ H R∨t2 σ H R) :=
 ⟨fun pins s σ H R I h=>h.elim (h1.run pins s σ H R I) (h2.run pins s σ H R I)⟩
theorem src_list {g:Fl} {ds:List D} {v:V} {fp:List Addr} (hC:C.At X) (hF:Fr C H1) (r:Rep C H1 (.lst g ds) v fp) (hi:imms ds=true):∃a vs,v=.ref a∧SqL X.K H1 a vs∧Reps C H1 ds vs [] ∧
  (∀H2,Fr C H2∧Mono H1 H2∧(∀b∈fp,H2 b=H1 b)→SqL X.K H2 a vs∧Reps C H2 ds vs []):=by
 obtain⟨a,vs,f1,f2,rfl,n,rs,hz,ef⟩:=r
 have sq:SqL X.K H1 a vs:=by have:=(Nd.rd n hF).sql;rwa[hC.1]at this
 have z:=rs.imm hi
 subst z
 refine⟨a,vs,rfl,sq,rs,fun H2 ⟨hf2,hm,hk⟩=>⟨?_,rs.keep (fun b hb=>nomatch hb) hm⟩⟩
 have n2:Nd C H2 g a (.lst vs) f1:=Nd.keep n (fun b hb=>hk b (by rw[ef];simp[hb])) hm
 have:=(Nd.rd n2 hf2).sql;rwa[hC.1]at this
theorem src_tup {ds:List D} {v:V} {fp:List Addr} (hC:C.At X) (r:Rep C H1 (.tup ds) v fp) (hi:imms ds=true):∃a vs,v=.ref a∧SqT X.K H1 a vs∧Reps C H1 ds vs [] ∧
  (∀H2,Fr C H2∧Mono H1 H2∧(∀b∈fp,H2 b=H1 b)→SqT X.K H2 a vs∧Reps C H2 ds vs []):=by
 obtain⟨a,vs,rfl,n,rs⟩:=r
 have sq:SqT X.K H1 a vs:=by rwa[hC.1]at n
 have z:=rs.imm hi
 subst z
 exact⟨a,vs,rfl,sq,rs,fun H2 ⟨hf2,hm,hk⟩=>⟨Zq sq hm,rs.keep (fun b hb=>nomatch hb) hm⟩⟩
def Ur (c:CE):CA:=fun env=>(c env).bind fun d env=>match d with
 | .lst _ ds=>if imms ds then .ok ds env else .err
 | .tup ds=>if imms ds then .ok ds env else .err
 | _=>.err
theorem ZL (h:SB X W M Rs e ca):SI X W M Rs tg e (Ur ca):=by
 obtain⟨t,p,q⟩:=(si_list (tg:=tg) h).go
 obtain⟨t2,p2,q2⟩:=(si_tup (tg:=tg) h).go
 refine⟨_,Jdt p p2,fun C fs env σ H tf Q hC G po=>?_⟩
 unfold Ur at po
 cases e1:ca env with
 | err=>rw[e1]at po;exact po.elim
 | ex x env' =>
  refine .inl (q C fs env σ H tf Q hC G ?_)
  unfold iSeq
  rw[e1]at po ⊢
  exact po
 | ok d env1 =>
  rw[e1]at po
  cases d with
  | lst g ds =>
   refine .inl (q C fs env σ H tf Q hC G ?_)
   unfold iSeq
   rw[e1]
   exact po
  | tup ds =>
   refine .inr (q2 C fs env σ H tf Q hC G ?_)
   unfold JcN
   rw[e1]
   exact po
  | _=>exact po.elim
def numD:Nat→List D→List D
 | _,[]=>[]
 | i,d::ds=>.tup [.int (i:Nat),d]::numD (i+1) ds
theorem Jar:∀{ds:List D} {k i:Nat},(numD k ds)[i]?=(ds[i]?).map fun d=>.tup [.int ((k+i:Nat):Int),d]
 | [],k,i=>by simp[numD]
 | d::ds,k,0=>by simp[numD]
 | d::ds,k,i+1=>by
  simp only[numD,List.getElem?_cons_succ]
  rw[Jar]
  congr 1
  funext x
  have:k+1+i=k+(i+1):=by omega
  rw[this]
theorem Jaw:∀{ds:List D} {k:Nat},(numD k ds).length=ds.length
 | [],k=>rfl
 | d::ds,k=>by simp[numD,Jaw]
def Jad (c:CE):CA:=fun env=>(c env).bind fun d env=>match d with
 | .lst _ ds=>if imms ds then .ok (numD 0 ds) env else .err
 | _=>.err
theorem si_enum {elts:List Expr} {kk:Nat} {tpos p2:Pos} (hg:Gl X "enumerate") (hm:X.mg "enumerate" = none) (h:SB X W M Rs e ca) (hs:starEach [e] X.env=[(false,eval e X.env)]:=by rfl):SI X W M Rs (.Tuple elts kk tpos) (.Call (.Name "enumerate" p2) [e] [] pos) (Jad ca):=by
 obtain⟨t,p,q⟩:=h.go
 refine⟨iEnum X.K (tCons t tNil),pi_enum hg hm (pa_cons p pa_nil hs) hs,fun C fs env σ H tf Q hC G po=>?_⟩
 show t σ H fun x H1=>_
 refine q C fs env σ H tf _ hC G ?_
 unfold Jad at po
 cases e1:ca env with
 | err=>rw[e1]at po;exact po
 | ex x env'=>rw[e1]at po;exact po
 | ok d env1 =>
  rw[e1]at po
  intro v fs1 H1 fp own G1 s1 r1 i1
  cases d with
  | lst g ds =>
   have po':QP W C M Rs tf fs env σ H Q (if imms ds then .ok (numD 0 ds) env1 else .err):=po
   by_cases hi:imms ds=true
   ·rw[if_pos hi]at po'
    obtain⟨a,vs,rfl,sq,rs,kp⟩:=src_list hC G1.fr r1 hi
    refine⟨a,vs,rfl,sq,po' _ fs1 H1 fp own G1 s1 ⟨?_⟩ i1⟩
    rw[Jaw,Je rs]
    refine Walk.mono (walk_enum (K:=X.K) (a:=a) (xs:=vs)) (fun H2 h2=>(kp H2 h2).1) fun i H2 x H3 hi2 h2 ⟨T,y,z,e1,e2,e3,e4,e5⟩=>?_
    subst e1 e3
    cases e4
    obtain⟨d,h1,h3⟩:=YD (kp H2 h2).2 hi e5
    have le:=Le.new (o:=.tup [.int (i:Nat),z]) e2
    refine⟨le,.tup [.int (i:Nat),d],by rw[Jar,h1];simp,T,_,rfl,SqT.of upd_same,.int (i:Nat),[z],[],[],rfl,⟨rfl,rfl⟩,⟨z,[],[],[],rfl,h3.le le,⟨rfl,rfl⟩,rfl⟩,rfl⟩
   ·rw[if_neg hi]at po';exact po'.elim
  | _=>exact po.elim
end
end VS
namespace VS
open PySem L2 SeqAt
section
variable {X:Cx} {W:WX} {M M1 M2 M3 M4 V1 V2 V3 Rs R1 R2 R3:List Nat} {e a b c tg:Expr} {es ifs:List Expr} {ca cb cc:CE} {cs src:CA} {ct:CT} {pos p:Pos} {g:D→Env→Option Env}
variable {pins:List (Addr × Obj)} {σ σ':L2.St} {H H1 H2 H':Hp} {s:Shared} {C C':Ctx}
theorem ZS:∀{ds:List D},imms ds=ds.all D.imm
 | []=>rfl
 | d::ds=>by rw[imms,List.all_cons,ZS]
theorem imms_rev {ds:List D} (h:imms ds=true):imms ds.reverse=true:=by
 rw[ZS]at h ⊢
 rw[List.all_reverse];exact h
theorem JbE:∀{ds:List D} {vs:List V},Reps C H ds vs []→Reps C H ds.reverse vs.reverse []
 | [],vs,⟨h1,h2⟩=>by subst h1;exact⟨rfl,rfl⟩
 | d::ds,vs,⟨v,vs',f1,f2,e,r,rs,e2⟩=>by
  obtain⟨z1,z2⟩:=List.append_eq_nil_iff.mp e2.symm
  subst e z1 z2
  rw[List.reverse_cons,List.reverse_cons]
  exact JU (f:=[]) (g:=[]) (JbE rs) ⟨v,[],[],[],rfl,r,⟨rfl,rfl⟩,rfl⟩
def Jah:D→D→Option D
 | .str x,.str y=>if (y.length == 0)=false∧x.length+2≤sizeLine then some (.lst .m ((Txt.split x y).map D.str)) else none
 | _,_=>none
def Jbm (ca cb:CE):CE:=fun env=>(ca env).bind fun d env=>match d with
 | .str x=>(cb env).bind fun y env=>R.of (Jah (.str x) y) env
 | _=>.err
theorem so_split {o:Expr} {apos:Pos} (ha:SB X W M1 R1 o ca) (hb:SB X W M2 R2 e cb) (hs:starEach [e] X.env=[(false,eval e X.env)]) (hbase:attributeBase o "split" X.env (eval o X.env)=eval o X.env) (hline:(apos.endLine == pos.line)=true) :
  SO X W (M1++M2) (.Call (.Attribute o "split" apos) [e] [] pos) (Jbm ca cb):=by
 obtain⟨t,p,q⟩:=ha.go
 obtain⟨t2,p2,q2⟩:=hb.go
 refine⟨_,pe_splitAny p p2 hs hbase hline,fun C fs env σ H tf Q hC G po=>?_⟩
 show t σ H fun x H1=>(∃a,x=.str a)∧t2 σ H1 fun y H2=>rSplitAny x [y] H2 Q
 refine q C fs env σ H tf _ hC G ?_
 unfold Jbm at po
 cases e1:ca env with
 | err=>rw[e1]at po;exact po
 | ex x env'=>rw[e1]at po;exact fun cv dd fs' H' G' s=>po cv dd fs' H' G' (s.weak JX fun _ z=>z)
 | ok d env1 =>
  rw[e1]at po
  intro v fs1 H1 fp own G1 s1 r1 i1
  have po1:=JY.step s1 po
  simp only[R.bind]at po1
  cases d with
  | str x =>
   obtain⟨rfl,_⟩:=r1
   refine⟨⟨x,rfl⟩,q2 C fs1 env1 σ H1 tf _ hC G1.drop ?_⟩
   simp only at po1
   cases e2:cb env1 with
   | err=>rw[e2]at po1;exact po1
   | ex x env'=>rw[e2]at po1;exact po1
   | ok y env2 =>
    rw[e2]at po1
    intro w fs2 H2 f2 own2 G2 s2 r2 _
    simp only[R.of]at po1
    cases e3:Jah (.str x) y with
    | none=>rw[e3]at po1;exact po1.elim
    | some z =>
     rw[e3]at po1
     unfold Jah at e3
     split at e3
     ·rename_i x' y' ex
      cases ex
      split at e3<;>cases e3
      rename_i hz
      obtain⟨rfl,_⟩:=r2
      refine .inl ⟨x,y',rfl,rfl,hz.1,hz.2,fun l hl=>?_⟩
      have k:=Ym (own:=own2) G2 s2 po1
      exact k.lst (JaL _) (Qw _) hl
     ·cases e3
  | _=>exact po1.elim
def putP (kd:List Key × List D) (k:Key) (x:D):List Key × List D:=match idxK kd.1 k with
 | some j=>(kd.1,kd.2.set j x)
 | none=>(kd.1++[k],kd.2++[x])
def Zl:List D→Option (List (Key × D))
 | []=>some []
 | .tup [k,x]::ds=>k.key.bind fun k=>(Zl ds).map fun r=>(k,x)::r
 | _=>none
def mkD (ps:List (Key × D)):List Key × List D:=ps.foldl (fun acc p=>putP acc p.1 p.2) ([],[])
theorem put_rep {kvs:List (Key × V)} {kd:List Key × List D} {k:Key} {x:D} {v:V} (h1:kvs.map (·.1)=kd.1) (hn:kd.1.Nodup) (hr:Reps C H kd.2 (kvs.map (·.2)) []) (rx:Rep C H x v []) :
  (putK kvs k v).map (·.1)=(putP kd k x).1∧(putP kd k x).1.Nodup∧Reps C H (putP kd k x).2 ((putK kvs k v).map (·.2)) []:=by
 unfold putP
 cases q:idxK kd.1 k with
 | some j =>
  have q':=q
  rw[←h1]at q'
  have e1:=QC (v:=v) (by rw[h1];exact hn) q'
  have hj:=(Qc q').2
  have hjd:j < kd.2.length:=by rw[Je hr];simpa using hj
  obtain⟨w',g1,fo,g2,k1,k2,k3,k4⟩:=UI hr (j:=j) (x:=kd.2[j]) (by simp[hjd])
  have z:=List.append_eq_nil_iff.mp k3.symm
  have z2:=List.append_eq_nil_iff.mp z.1
  obtain⟨⟨rfl,rfl⟩,rfl⟩:=And.intro z2 z.2
  refine⟨?_,hn,?_⟩
  ·rw[e1,QS,h1]
   have:=Jb8 q'
   rw[List.getElem?_map]at this;exact this
  ·rw[e1,QJ]
   exact k4 H x v [] (.refl H) (fun _ z=>nomatch z) rx
 | none =>
  have q':=q
  rw[←h1]at q'
  have e1:=putK_new v (Jai q')
  refine⟨by rw[e1,List.map_append,h1];rfl,?_,?_⟩
  ·refine List.nodup_append.mpr ⟨hn,by simp,fun x hx y hy e=>?_⟩
   simp at hy;subst hy;subst e
   exact Jbr q hx
  ·rw[e1,List.map_append]
   exact JU (f:=[]) (g:=[]) hr ⟨v,[],[],[],rfl,rx,⟨rfl,rfl⟩,rfl⟩
theorem Ja5 (hC:C.At X):∀{ds:List D} {ps:List (Key × D)} {vs:List V},Zl ds=some ps→imms ds=true→Reps C H ds vs []→∃(as:List Addr) (kvs:List (Key × V)),vs=as.map V.ref∧Paired (fun p kv=>SqT X.K H p [kV kv.1,kv.2]) as kvs ∧
  kvs.map (·.1)=ps.map (·.1)∧Reps C H (ps.map (·.2)) (kvs.map (·.2)) []
 | [],ps,vs,h,_,⟨h1,_⟩=>by cases h;subst h1;exact⟨[],[],rfl,.nil,rfl,rfl,rfl⟩
 | d::ds,ps,vs,h,hi,⟨v,vs',f1,f2,e,r,rs,e2⟩=>by
  obtain⟨z1,z2⟩:=List.append_eq_nil_iff.mp e2.symm
  subst e z1 z2
  unfold Zl at h
  split at h
  ·rename_i he;cases he
  ·rename_i k x ds' he
   cases he
   obtain⟨ky,h1,h2⟩:=Option.bind_eq_some_iff.mp h
   obtain⟨ps',h3,rfl⟩:=Option.map_eq_some_iff.mp h2
   rw[imms,Bool.and_eq_true]at hi
   obtain⟨as,kvs,q1,q2,q3,q4⟩:=Ja5 hC h3 hi.2 rs
   obtain⟨ad,ws,rfl,n,rw⟩:=r
   obtain⟨u1,us,g1,g2,ew,ru,rus,eg⟩:=rw
   obtain⟨u2,us2,g3,g4,ew2,ru2,⟨ew3,eg3⟩,eg2⟩:=rus
   obtain⟨y1,y2⟩:=List.append_eq_nil_iff.mp eg.symm
   subst y1 y2
   obtain⟨y3,y4⟩:=List.append_eq_nil_iff.mp eg2.symm
   subst y3 ew3 ew2 ew q1
   have ek:=ZJ h1 ru
   subst ek
   exact⟨ad::as,(ky,u2)::kvs,rfl,.cons (by rw[←hC.1];exact n) q2,by simp[q3],u2,_,[],[],rfl,ru2,q4,rfl⟩
  ·cases h
theorem Uj:∀{ps:List (Key × D)} {kvs acc:List (Key × V)} {kd:List Key × List D},kvs.map (·.1)=ps.map (·.1)→Reps C H (ps.map (·.2)) (kvs.map (·.2)) []→acc.map (·.1)=kd.1→kd.1.Nodup→Reps C H kd.2 (acc.map (·.2)) [] →
  (mergeK acc kvs).map (·.1)=(ps.foldl (fun acc p=>putP acc p.1 p.2) kd).1∧(ps.foldl (fun acc p=>putP acc p.1 p.2) kd).1.Nodup∧Reps C H (ps.foldl (fun acc p=>putP acc p.1 p.2) kd).2 ((mergeK acc kvs).map (·.2)) []
 | [],kvs,acc,kd,h1,h2,h3,h4,h5=>by
  cases kvs with
  | nil=>exact⟨h3,h4,h5⟩
  | cons a b=>cases h1
 | (k,x)::ps,kvs,acc,kd,h1,h2,h3,h4,h5=>by
  cases kvs with
  | nil=>cases h1
  | cons kv kvs =>
   obtain⟨k',v⟩:=kv
   simp only[List.map_cons,List.cons.injEq]at h1
   obtain⟨hk,h1⟩:=h1
   subst hk
   obtain⟨v',vs',f1,f2,e,r,rs,e2⟩:=h2
   cases e
   obtain⟨z1,z2⟩:=List.append_eq_nil_iff.mp e2.symm
   subst z1 z2
   obtain⟨p1,p2,p3⟩:=put_rep (k:=k') (x:=x) (v:=v) h3 h4 h5 r
   exact Uj (ps:=ps) (kvs:=kvs) (acc:=putK acc k' v) (kd:=putP kd k' x) h1 rs p1 p2 p3
end
end VS
namespace VS
open PySem L2 SeqAt PySem.Spec PyProof.Rows
section
variable {X:Cx} {W:WX} {M M1 M2 M3 M4 V1 V2 V3 Rs R1 R2 R3:List Nat} {e a b c tg o:Expr} {es ifs:List Expr} {ca cb cc:CE} {cs src:CA} {ct:CT} {pos p apos cpos:Pos} {cl:CL} {i:Nat}
theorem Qm (ho:SL X W i M1 o cl) (ha:SAO X W M2 (e::es) cs)
  (hi:djB [i] M2=true) (hbase:attributeBase o "append" X.env (eval o X.env)=eval o X.env)
  (hfew:((backTo cpos (starEach (e::es) X.env)).all (fun x=>!x.1) && (backToKw cpos (keywordEach [] X.env)).all (fun x=>x.1.isSome)
   && decide ((e::es).length+([]:List Keyword).length+(if ([]:List Keyword).isEmpty then 0 else 1) < 30))=true)
  (hline:(apos.endLine == cpos.line)=true) (hs:starEach (e::es) X.env=(false,eval e X.env)::starEach es X.env) (hplain:(backTo cpos (starEach es X.env)).any (·.1)=false) :
  SO X W (M1++(M2++[i])) (.Call (.Attribute o "append" apos) (e::es) [] cpos) (cMut i kdL Yk cl cs) :=
 Jca mu_append PySem.F.plainAttrs_list PySem.F.slot_list_append PySem.F.type_list_append mt_append ho ha hi hbase hfew hline hs hplain
end
end VS
namespace VS
open PySem L2 SeqAt
section
variable {α β:Type} (env:Env) (i j:Nat) (c ca cb cc:CE) (cs:CA) (ct:CT) (ta tb:CT) (d:D) (p q:D→D→Option D) (p1:D→Option D) (pl:List D→Option D) (s1 s2:CS) (g:D→Env→Option Env)
@[simp] theorem e_addI (i j:Int):pAdd (.int i) (.int j)=some (.int (i+j)):=by simp[pAdd,orP2,pI]
@[simp] theorem e_addT (xs ys:List D):pAdd (.tup xs) (.tup ys)=if imms xs && imms ys && decide (xs.length+ys.length≤sizeLine) then some (.tup (xs++ys)) else none:=by
 simp[pAdd,orP2,pI,Ja7,JaU,JaO]
@[simp] theorem e_addL (g g':Fl) (xs ys:List D):pAdd (.lst g xs) (.lst g' ys)=if imms xs && imms ys && decide (xs.length+ys.length≤sizeLine) then some (.lst .m (xs++ys)) else none:=by
 simp[pAdd,orP2,pI,Ja7,JaU,JaO]
@[simp] theorem e_pno:pNo env=.ok none env:=(rfl)
@[simp] theorem e_pat:pAt ca env=(ca env).bind fun d env=>match d with
 | .int i=>.ok (some i) env
 | _=>.err:=(rfl)
@[simp] theorem e_sl (lo hi:Env→R (Option Int)):cSl ca lo hi env=(ca env).bind fun d env=>(lo env).bind fun l env=>(hi env).bind fun h env=>R.of (pSl d l h) env:=(rfl)
@[simp] theorem e_sl1 (ds:List D) (lo hi:Option Int):pSl (.tup ds) lo hi=if imms ds then some (.tup (cutD ds lo hi)) else none:=(rfl)
@[simp] theorem e_sl2 (g:Fl) (ds:List D) (lo hi:Option Int):pSl (.lst g ds) lo hi=if imms ds then some (.lst .m (cutD ds lo hi)) else none:=(rfl)
@[simp] theorem e_split:Jbm ca cb env=(ca env).bind fun d env=>match d with
 | .str x=>(cb env).bind fun y env=>R.of (Jah (.str x) y) env
 | _=>.err:=(rfl)
@[simp] theorem e_lc (vs:List Nat) (ct:CT) (ce:CE) (src:CA):cLc src vs g ct ce env=(src env).bind fun ds env1 =>
 if ZM env1 vs=true∧ds.length≤sizeLine then (match YT vs g ct ce ds (YB env1 vs) with
  | some r=>.ok (.lst .m r.1) (Uv env1 r.2 vs)
  | none=>.err) else .err:=(rfl)
@[simp] theorem e_anyD:Ur c env=(c env).bind fun d env=>match d with
 | .lst _ ds=>if imms ds then .ok ds env else .err
 | .tup ds=>if imms ds then .ok ds env else .err
 | _=>.err:=(rfl)
@[simp] theorem e_enumD:Jad c env=(c env).bind fun d env=>match d with
 | .lst _ ds=>if imms ds then .ok (numD 0 ds) env else .err
 | _=>.err:=(rfl)
@[simp] theorem e_rng1:UX cs env=(cs env).bind fun ds env=>R.of (Uk ds) env:=(rfl)
@[simp] theorem e_wipe0:YB env []=env:=(rfl)
@[simp] theorem e_wipe1 (v:Nat) (vs:List Nat):YB env (v::vs)=(YB env vs).set v none:=(rfl)
@[simp] theorem e_back0 (e1:Env):Uv e1 env []=env:=(rfl)
@[simp] theorem e_back1 (e1:Env) (v:Nat) (vs:List Nat):Uv e1 env (v::vs)=(Uv e1 env vs).set v (e1.getD v none):=(rfl)
@[simp] theorem e_clear0:ZM env []=true:=(rfl)
@[simp] theorem e_clear1 (v:Nat) (vs:List Nat):ZM env (v::vs)=((match env[v]? with
 | some (some d)=>d.imm
 | _=>true) && ZM env vs):=(rfl)
@[simp] theorem e_yes:cYes env=.ok true env:=(rfl)
@[simp] theorem e_gtup (n:Nat) (gs:List D→Env→Option Env) (ds:List D):Yt n gs (.tup ds) env=if ds.length=n then gs ds env else none:=by
 first | rfl | simp[Yt]
@[simp] theorem e_gnil:Yx [] env=some env:=(rfl)
@[simp] theorem e_gcons (gs:List D→Env→Option Env) (ds:List D):Ji g gs (d::ds) env=(g d env).bind fun env=>gs ds env:=(rfl)
@[simp] theorem e_eqS (i j:Str):pEq (.str i) (.str j)=some (.bl (i == j)):=(rfl)
@[simp] theorem e_neS (i j:Str):pNe (.str i) (.str j)=some (.bl (!(i == j))):=(rfl)
@[simp] theorem e_neB (i j:Bool):pNe (.bl i) (.bl j)=some (.bl (!(i == j))):=(rfl)
@[simp] theorem e_eqB (i j:Bool):pEq (.bl i) (.bl j)=some (.bl (i == j)):=(rfl)
@[simp] theorem e_list1 (g:Fl) (ds:List D):JbR [.lst g ds]=if imms ds then some (.lst .m ds) else none:=(rfl)
@[simp] theorem e_list2 (ds:List D):JbR [.tup ds]=if imms ds then some (.lst .m ds) else none:=(rfl)
@[simp] theorem e_tup1 (g:Fl) (ds:List D):Yr [.lst g ds]=if imms ds then some (.tup ds) else none:=(rfl)
@[simp] theorem e_tup2 (ds:List D):Yr [.tup ds]=if imms ds then some (.tup ds) else none:=(rfl)
@[simp] theorem e_mut (kd:D→Bool) (mp:D→List D→Option (D × D)) (cl:CL):cMut i kd mp cl cs env=(cl env).bind fun dF env=>if kd dF.1 then (cs env).bind fun ds env=>match mp dF.1 ds with
 | some dr=>.ok dr.2 (env.set i (some (dF.2 dr.1)))
 | none=>.err
 else .err:=(rfl)
@[simp] theorem e_lvar:lVar i env=match env[i]? with
 | some (some d)=>.ok (d,id) env
 | _=>.err:=(rfl)
@[simp] theorem e_kdL (ds:List D):kdL (.lst .m ds)=true:=(rfl)
@[simp] theorem e_app (ds:List D) (x:D):Yk (.lst .m ds) [x]=if ds.length < sizeLine then some (.lst .m (ds++[x]),.non) else none:=(rfl)
@[simp] theorem e_sfor (src:CA) (body:CS):sFor src g body env=match src env with
 | .ok ds env=>YF g body ds env
 | .ex x env=>.ex x env
 | .err=>.err:=(rfl)
theorem Jcb {g:D→Env→Option Env} {body:CS} {d:D} {ds:List D} {env env1 env2:Env} (h1:g d env=some env1) (h2:body env1=.nx env2):YF g body (d::ds) env=YF g body ds env2:=by simp[YF,h1,h2]
end
end VS
namespace VS
open PySem L2 SeqAt
theorem Jcy (j:Int) (h0:-(2 ^ 62)≤j) (h:j < 2 ^ 62):Uk [.int j]=some ((List.range j.toNat).map fun i=>.int (i:Nat)):=if_pos ⟨h0,h⟩
end VS
namespace VS
open PySem L2 SeqAt PySem.Spec PyProof.Rows
section
variable {X:Cx} {W:WX} {M M1 M2 M3 V1 V2 V3 Rs R1 R2 R3:List Nat} {e a b c tg o:Expr} {es:List Expr} {ca cb cc:CE} {cs:CA} {pos p apos tpos:Pos} {cl:CL} {i:Nat} {io:List Bool}
variable {pins:List (Addr × Obj)} {σ:L2.St} {H H1 H2 H3 H':Hp} {s:Shared} {C C':Ctx} {fs fs1 fs2:FPs} {env env1 env2:Env} {tf tf' own:List Addr} {cr:Env→R (List AV)}
def MthT (P:Program) (w:World) (K:PySem.W.Frag) (mg:Str→Option Value) (base:Heap) (k:Nat) (c m:Str) (ps:List Str) (io:List Bool) (φ:List D→FR):Prop :=
 ∃(Ca f:Addr) (fd:FuncData),mg c=some (.ref Ca)∧Cls K Ca∧Meth K Ca m f∧FnOk P w K mg base (L2.CX P w) k f fd ps (spF K mg io φ)∧Binds K fd ps []
theorem MthT.mono {P:Program} {w:World} {K:PySem.W.Frag} {mg:Str→Option Value} {base:Heap} {j k:Nat} {c m:Str} {ps:List Str} {io:List Bool} {φ:List D→FR} (F:MthT P w K mg base j c m ps io φ) (h:j≤k):MthT P w K mg base k c m ps io φ :=
 let ⟨Ca,f,fd,h1,h2,h3,h4,h5⟩:=F
 ⟨Ca,f,fd,h1,h2,h3,h4.mono h,h5⟩
variable {k:Nat} {c m:Str} {ps:List Str} {φ:List D→FR}
end
end VS
namespace VS
open PySem L2 SeqAt PySem.Spec PyProof.Rows
section
variable {X:Cx} {W:WX} {M M1 M2 M3 V1 V2 V3 Rs R1 R2 R3:List Nat} {e a b c tg o:Expr} {es:List Expr} {ca cb cc:CE} {cs:CA} {pos p apos tpos:Pos} {cl:CL} {i:Nat} {io:List Bool}
variable {pins:List (Addr × Obj)} {σ:L2.St} {H H1 H2 H3 H' HA:Hp} {s:Shared} {C C':Ctx} {fs fs1 fs2 fsA:FPs} {env env1 env2:Env} {tf tf' own ownr:List Addr} {cr:Env→R (List AV)}
theorem AOk.le {Ms:List Nat} (h:Le H H'):∀{avs:List AV} {vs:List V} {fps:FPs},AOk C H σ Ms Rs fs ownr avs vs fps→AOk C H' σ Ms Rs fs ownr avs vs fps
 | [],vs,fps,x=>x
 | .ro d::as,vs,fps,⟨v,vs',fp,fps',e1,e2,r,i,x⟩=>⟨v,vs',fp,fps',e1,e2,r.le h,i,AOk.le h x⟩
 | .ow d wb::as,vs,fps,⟨v,vs',fp,fps',e1,e2,r,i,x⟩=>⟨v,vs',fp,fps',e1,e2,r.le h,i,AOk.le h x⟩
def MkT (P:Program) (w:World) (K:PySem.W.Frag) (mg:Str→Option Value) (base:Heap) (k:Nat) (c:Str) (ps:List Str) (io:List Bool) (φ:List D→FR):Prop :=
 ∃(Ca f:Addr) (fd:FuncData),mg c=some (.ref Ca)∧Mk K Ca f∧FnOk P w K mg base (L2.CX P w) k f fd ps (spF K mg (true::io) φ)∧Binds K fd ps []
theorem MkT.mono {P:Program} {w:World} {K:PySem.W.Frag} {mg:Str→Option Value} {base:Heap} {j k:Nat} {c:Str} {ps:List Str} {io:List Bool} {φ:List D→FR} (F:MkT P w K mg base j c ps io φ) (h:j≤k):MkT P w K mg base k c ps io φ :=
 let ⟨Ca,f,fd,h1,h2,h4,h5⟩:=F
 ⟨Ca,f,fd,h1,h2,h4.mono h,h5⟩
end
end VS
namespace VS
open PySem L2 SeqAt PySem.Spec PyProof.Rows
section
variable {X:Cx} {W:WX} {M M1 M2 M3 V1 V2 V3 Rs R1 R2 R3:List Nat} {e a b c tg o f:Expr} {es:List Expr} {ca cb cc:CE} {cs:CA} {pos p apos tpos cpos:Pos} {cl:CL} {i:Nat} {io:List Bool}
variable {pins:List (Addr × Obj)} {σ:L2.St} {H H1 H2 H3 H' HA:Hp} {s:Shared} {C C':Ctx} {fs fs1 fs2 fsA:FPs} {env env1 env2:Env} {tf tf' own ownr:List Addr}
theorem JbK:SO X W [] (.Dict [] [] pos) (cK (.dct .m [] [])):=by
 refine⟨tDNewK,pe_dnewK,fun C fs env σ H tf Q hC G po p np=>?_⟩
 refine po (.ref p) fs (upd H p (.dK [])) [p] (G.grow (Le.new np) (by simp) (by simpa using np) fun a ha=>?_) (Step.grow G (Le.new np)) ⟨p,[],[p],[],rfl,⟨upd_same,rfl⟩,⟨rfl,.nil⟩,⟨rfl,rfl⟩,.inl rfl,rfl⟩
 simp at ha;subst ha;exact⟨_,upd_same,trivial⟩
def Ue:List (CE × CE)→Env→R (List (Key × D))
 | [],env=>.ok [] env
 | (k,v)::r,env=>(k env).bind fun dk env=>(v env).bind fun dv env=>(Ue r env).bind fun ps env=>match dk.key with
  | some ky=>.ok ((ky,dv)::ps) env
  | none=>.err
def Jbh (W:WX) (C:Ctx) (M:List Nat) (tf:List Addr) (fs:FPs) (env:Env) (σ:L2.St) (H:Hp) (Q:List (V × V)→Hp→Prop):R (List (Key × D))→Prop
 | .ok ps env'=>∀(kvs:List (Key × V)) fs' H' fp,Good C fs' env' σ H' (fp++tf)→Step M tf fs env H fs' env' H'→kvs.map (·.1)=ps.map (·.1)→Reps C H' (ps.map (·.2)) (kvs.map (·.2)) fp→Q (kvs.map fun kv=>(kV kv.1,kv.2)) H'
 | .ex x env'=>∀cv dd fs' H',Good C fs' env' σ H' tf→Step M tf fs env H fs' env' H'→ExIs C x cv dd H'→W cv dd σ H'
 | .err=>False
structure SPP (X:Cx) (W:WX) (pos:Pos) (M:List Nat) (keys:List (Option Expr)) (values:List Expr) (cps:List (CE × CE)):Prop where
 go:∃trs,PPs X pos keys values trs∧∀C fs env σ H tf Q,C.At X→Good C fs env σ H tf→Jbh W C M tf fs env σ H Q (Ue cps env)→tPairs trs σ H Q
theorem Jbl:SPP X W pos [] [] [] []:=by
 refine⟨[],pps_nil,fun C fs env σ H tf Q hC G po=>?_⟩
 exact po [] fs H [] (by simpa using G) .refl rfl ⟨rfl,rfl⟩
theorem Zp {keys:List (Option Expr)} {values:List Expr} {cps:List (CE × CE)} (hk:SB X W M1 R1 a ca) (hv:SO X W M2 b cb) (hr:SPP X W pos M3 keys values cps):SPP X W pos (M1++(M2++M3)) (some a::keys) (b::values) ((ca,cb)::cps):=by
 obtain⟨t,p,q⟩:=hk.go
 obtain⟨t2,p2,q2⟩:=hv.go
 obtain⟨trs,p3,q3⟩:=hr.go
 refine⟨(t,t2)::trs,pps_cons p p2 p3,fun C fs env σ H tf Q hC G po=>?_⟩
 refine q C fs env σ H tf _ hC G ?_
 unfold Ue at po
 cases e1:ca env with
 | err=>rw[e1]at po;exact po
 | ex x env'=>rw[e1]at po;exact fun cv dd fs' H' G' s=>po cv dd fs' H' G' (s.weak JX fun _ z=>z)
 | ok dk env1 =>
  rw[e1]at po
  intro vk fs1 H1 fk ownk G1 s1 rk ik
  refine q2 C fs1 env1 σ H1 tf _ hC G1.drop ?_
  have po1:Jbh W C (M1++(M2++M3)) tf fs env σ H Q ((cb env1).bind fun dv env=>(Ue cps env).bind fun ps env=>match dk.key with
   | some ky=>.ok ((ky,dv)::ps) env
   | none=>.err):=po
  cases e2:cb env1 with
  | err=>rw[e2]at po1;exact po1
  | ex x env'=>rw[e2]at po1;exact fun cv dd fs' H' G' s=>po1 cv dd fs' H' G' ((s1.trans s).weak (fun i hi=>by rcases List.mem_append.mp hi with z | z<;>simp[z]) fun _ z=>z)
  | ok dv env2 =>
   rw[e2]at po1
   intro vv fs2 H2 fv G2 s2 rv
   refine q3 C fs2 env2 σ H2 (fv++tf) _ hC G2 ?_
   have po2:Jbh W C (M1++(M2++M3)) tf fs env σ H Q ((Ue cps env2).bind fun ps env=>match dk.key with
    | some ky=>.ok ((ky,dv)::ps) env
    | none=>.err):=po1
   cases e3:Ue cps env2 with
   | err=>rw[e3]at po2;exact po2
   | ex x env'=>rw[e3]at po2;exact fun cv dd fs' H' G' s=>po2 cv dd fs' H' G'.drop (s1.trans (s2.trans (s.weak (fun _ z=>z) fun x hx=>List.mem_append_right _ hx)))
   | ok ps env3 =>
    rw[e3]at po2
    intro kvs fs3 H3 fp G3 s3 hks rs
    have po3:Jbh W C (M1++(M2++M3)) tf fs env σ H Q (match dk.key with
     | some ky=>.ok ((ky,dv)::ps) env3
     | none=>.err):=po2
    cases e4:dk.key with
    | none=>rw[e4]at po3;exact po3.elim
    | some ky =>
     rw[e4]at po3
     have:=ZJ e4 rk
     subst this
     have po4:∀(kvs:List (Key × V)) fs' H' fp,Good C fs' env3 σ H' (fp++tf)→Step (M1++(M2++M3)) tf fs env H fs' env3 H'→kvs.map (·.1)=((ky,dv)::ps).map (·.1)→Reps C H' (((ky,dv)::ps).map (·.2)) (kvs.map (·.2)) fp→Q (kvs.map fun kv=>(kV kv.1,kv.2)) H':=po3
     refine po4 ((ky,vv)::kvs) fs3 H3 (fv++fp) (G3.perm ?_) (s1.trans (s2.trans (s3.weak (fun _ z=>z) fun x hx=>List.mem_append_right _ hx))) (by simp[hks]) ⟨vv,kvs.map (·.2),fv,fp,rfl,rv.keep (fun x hx=>s3.t x (List.mem_append_left _ hx)) s3.m,rs,rfl⟩
     rw[List.append_assoc];exact List.perm_append_comm_assoc _ _ _
def QE (cps:List (CE × CE)):CE:=fun env=>(Ue cps env).bind fun ps env=>if ps.length≤15∧(ps.map (·.1)).Nodup then .ok (.dct .m (ps.map (·.1)) (ps.map (·.2))) env else if ps.length≤15∧imms (ps.map (·.2))=true then .ok (.dct .m (mkD ps).1 (mkD ps).2) env else .err
theorem Qt:∀{more kvs:List (Key × V)},(kvs.map (·.1)++more.map (·.1)).Nodup→mergeK kvs more=kvs++more
 | [],kvs,_=>by simp[mergeK]
 | p::r,kvs,h=>by
  have hn:valV kvs p.1=none:=by
   have hp:p.1∉kvs.map (·.1):=fun z=>(List.nodup_append.mp h).2.2 p.1 z p.1 (by simp) rfl
   clear h
   induction kvs with
   | nil=>rfl
   | cons kv kvs ih =>
    have h1:¬ kv.1=p.1:=fun z=>hp (by simp[z])
    rw[valV_neg h1]
    exact ih fun z=>hp (by simp only[List.map_cons,List.mem_cons];exact .inr z)
  have e1:=putK_new p.2 hn
  show mergeK (putK kvs p.1 p.2) r=_
  rw[e1]
  have:=Qt (more:=r) (kvs:=kvs++[(p.1,p.2)]) (by simpa using h)
  rw[this];simp
theorem Jbp {keys:List (Option Expr)} {values:List Expr} {cps:List (CE × CE)} (h:SPP X W pos M keys values cps) (hall:keys.all (·.isSome)=true) (hl:keys.length=values.length) (h0:keys≠[]) (h15:keys.length≤15):SO X W M (.Dict keys values pos) (QE cps):=by
 obtain⟨trs,pp,q⟩:=h.go
 refine⟨tDisp trs,pe_disp pp hall hl h0 h15,fun C fs env σ H tf Q hC G po p np=>?_⟩
 have le0:=Le.new (o:=.dK []) np
 have G0:Good C fs env σ (upd H p (.dK [])) ([p]++tf):=G.grow le0 (by simp) (by simpa using np) fun a ha=>by
  simp at ha;subst ha;exact⟨_,upd_same,trivial⟩
 have s0:Step [] tf fs env H fs env (upd H p (.dK [])):=Step.grow G le0
 refine q C fs env σ _ ([p]++tf) _ hC G0 ?_
 unfold QE at po
 cases e1:Ue cps env with
 | err=>rw[e1]at po;exact po
 | ex x env'=>rw[e1]at po;exact fun cv dd fs' H' G' s=>po cv dd fs' H' G'.drop (s0.trans (s.weak (fun _ z=>z) fun x hx=>List.mem_append_right _ hx))
 | ok ps env1 =>
  rw[e1]at po
  intro kvs fs1 H1 fp G1 s1 hks rs
  have hp1:H1 p=some (.dK []):=by rw[s1.t p (by simp)];exact upd_same
  refine⟨hp1,kvs,rfl,?_⟩
  have po1:JY W C M tf fs env σ H Q (if ps.length≤15∧(ps.map (·.1)).Nodup then .ok (.dct .m (ps.map (·.1)) (ps.map (·.2))) env1 else if ps.length≤15∧imms (ps.map (·.2))=true then .ok (.dct .m (mkD ps).1 (mkD ps).2) env1 else .err):=po
  have hlen:kvs.length=ps.length:=by have:=congrArg List.length hks;simpa using this
  have G1':Good C fs1 env1 σ H1 (p::(fp++tf)):=G1.perm (by
   have:(p::(fp++tf)).Perm (fp++([p]++tf)):=(List.perm_middle (l₁:=fp) (l₂:=tf) (a:=p)).symm
   exact this)
  have fin:∀(kd:List Key × List D),(mergeK [] kvs).map (·.1)=kd.1→kd.1.Nodup→(∀H',Mono H1 H'→(∀a∈fp,H' a=H1 a)→Reps C H' kd.2 ((mergeK [] kvs).map (·.2)) fp)→JY W C M tf fs env σ H Q (.ok (.dct .m kd.1 kd.2) env1)→Q (.ref p) (upd H1 p (.dK (mergeK [] kvs))):=by
   intro kd h1 h2 h3 po2
   have mu:=Mono.upd (o:=.dK (mergeK [] kvs)) hp1 trivial
   have npf:∀a∈fp,a≠p:=fun a ha e=>by
    subst e
    have nd:=(List.nodup_append.mp G1'.nd).2.1
    exact(List.nodup_cons.mp nd).1 (List.mem_append_left _ ha)
   have G2:Good C fs1 env1 σ (upd H1 p (.dK (mergeK [] kvs))) (p::(fp++tf)):=G1'.updT hp1 trivial trivial
   have s2:Step [] tf fs1 env1 H1 fs1 env1 (upd H1 p (.dK (mergeK [] kvs))):=(Step.updT G1' hp1 trivial).weak (fun _ z=>z) fun x hx=>List.mem_append_right _ hx
   refine po2 (.ref p) fs1 _ (p::fp) G2 ?_ ⟨p,mergeK [] kvs,[p],fp,rfl,⟨upd_same,rfl⟩,⟨h1,h2⟩,h3 _ mu fun a ha=>upd_ne (npf a ha),.inl rfl,rfl⟩
   have:=(s0.trans (s1.weak (M':=M) (tf':=tf) (fun _ z=>z) fun x hx=>List.mem_append_right _ hx)).trans s2
   simpa using this
  split at po1
  ·rename_i hc
   refine⟨by rw[hlen];exact hc.1,fin (ps.map (·.1),ps.map (·.2)) ?_ hc.2 (fun H' m k=>?_) po1⟩
   ·rw[Qt (by simpa [hks] using hc.2)];simpa using hks
   ·rw[Qt (by simpa [hks] using hc.2)]
    simpa using rs.keep k m
  ·split at po1
   ·rename_i hc
    have z:=rs.imm hc.2
    subst z
    refine⟨by rw[hlen];exact hc.1,fin (mkD ps) ?_ ?_ (fun H' m k=>?_) po1⟩
    ·exact(Uj (C:=C) (H:=H1) (acc:=[]) (kd:=([],[])) hks rs rfl .nil ⟨rfl,rfl⟩).1
    ·exact(Uj (C:=C) (H:=H1) (acc:=[]) (kd:=([],[])) hks rs rfl .nil ⟨rfl,rfl⟩).2.1
    ·have:=(Uj (C:=C) (H:=H1) (acc:=[]) (kd:=([],[])) hks rs rfl .nil ⟨rfl,rfl⟩).2.2
     exact this.keep (fun _ z=>nomatch z) m
   ·exact po1.elim
end
end VS
namespace VS
open PySem L2 SeqAt PySem.Spec PyProof.Rows
section
variable {X:Cx} {W:WX} {Ma Mb Mc V1 V2 V3 Rs R1 R2 R3:List Nat} {e a b c tg o f:Expr} {es:List Expr} {ca cb cc cd:CE} {cs:CA} {pos p apos tpos cpos:Pos} {cl:CL} {i:Nat} {io:List Bool}
variable {pins:List (Addr × Obj)} {σ:L2.St} {H H1 H2 H3 H' HA:Hp} {s:Shared} {C C':Ctx} {fs fs1 fs2 fsA:FPs} {env env1 env2:Env} {tf tf' own ownr:List Addr}
def QH:D→Bool
 | .dct _ _ _=>true
 | _=>false
theorem isDct_inv {d:D} (h:QH d=true):∃g ks ds,d=.dct g ks ds:=by
 cases d<;>simp[QH]at h
 exact⟨_,_,_,rfl⟩
def Qe:D→D→D→Option D
 | .dct _ ks ds,y,x=>y.key.map fun k=>(Yb ks ds k).getD x
 | _,_,_=>none
def Ja1 (cd cb cc:CE):CE:=fun env=>(cd env).bind fun d env=>if QH d then ((cb env).bind fun y env=>(cc env).bind fun x env=>R.of (Qe d y x) env) else .err
theorem get_fin {g:Fl} {ks:List Key} {ds:List D} {ad:Addr} {fp:List Addr} {y:D} {w:V} {fw:List Addr} {ky:Key} (hF:Fr C H) (r:Rep C H (.dct g ks ds) (.ref ad) fp) (hky:y.key=some ky) (rw':Rep C H y w fw) :
  ∃ov,DGet H ad w ov∧(match Yb ks ds ky with
   | none=>ov=none
   | some x=>∃vx hx,ov=some vx∧Rep C H x vx hx∧∀a∈hx,a∈fp):=by
 obtain⟨ad2,kvs,g3,g4,e5,hd,hk,rz,ef⟩:=UT hF r
 cases e5
 have ey:=ZJ hky rw'
 subst hk
 cases e6:Yb (kvs.map (·.1)) ds ky with
 | none=>exact⟨none,.inl ⟨kvs,ky,hd,ey,(Qs rz e6).symm⟩,rfl⟩
 | some x =>
  obtain⟨vx,h1',hx,h2',k1,k2,k3⟩:=ZX rz e6
  exact⟨some vx,.inl ⟨kvs,ky,hd,ey,k1.symm⟩,vx,hx,rfl,k2,fun a ha=>by rw[ef,k3];simp[ha]⟩
theorem Jbc {k:Nat} (hr:Room k X.A) (hd:SB X W Ma R1 o cd) (hb:SB X W Mb R2 e cb) (hc:SO X W Mc f cc) (m:L2.M2 X o "get" apos e f cpos) (h1:djB R1 (Mb++Mc)=true) (h2:djB R2 Mc=true) :
  SB X W (Ma++(Mb++Mc)) R1 (.Call (.Attribute o "get" apos) [e,f] [] cpos) (Ja1 cd cb cc):=by
 obtain⟨t,p,q⟩:=hd.go
 obtain⟨t2,p2,q2⟩:=hb.go
 obtain⟨t3,p3,q3⟩:=hc.go
 refine⟨tDGet2 t t2 t3,pe_dget2 (by have:=hr.units;omega) p p2 p3 m,fun C fs env σ H tf Q hC G po=>q C fs env σ H tf _ hC G ?_⟩
 unfold Ja1 at po
 cases e1:cd env with
 | err=>rw[e1]at po;exact po
 | ex x env'=>rw[e1]at po;exact fun cv dd fs' H' G' s=>po cv dd fs' H' G' (s.weak JX fun _ z=>z)
 | ok d env1 =>
  rw[e1]at po
  intro v fs1 H1 fp own G1 s1 r i1
  have po0:JaG W C (Ma++(Mb++Mc)) R1 tf fs env σ H Q (if QH d then ((cb env1).bind fun y env=>(cc env).bind fun x env=>R.of (Qe d y x) env) else .err):=po
  split at po0
  case isFalse=>exact po0.elim
  rename_i hdc
  obtain⟨g,ks,ds,rfl⟩:=isDct_inv hdc
  have r0:=r
  obtain⟨ad,kvs,g1,g2,rfl,hd,hk,rz,ef⟩:=UT G1.fr r
  refine⟨ad,rfl,.inl ⟨kvs,hd⟩,q2 C fs1 env1 σ H1 (own++tf) _ hC G1 ?_⟩
  cases e2:cb env1 with
  | err=>rw[e2]at po0;exact po0
  | ex x env'=>rw[e2]at po0;exact fun cv dd fs' H' G' s=>po0 cv dd fs' H' G'.drop ((s1.trans (s.weak (fun _ z=>z) fun x hx=>List.mem_append_right _ hx)).weak (fun i hi=>by rcases List.mem_append.mp hi with z | z<;>simp[z]) fun _ z=>z)
  | ok y env2 =>
   rw[e2]at po0
   intro w fs2 H2 fw ownw G2 s2 rw' iw
   refine q3 C fs2 env2 σ H2 (ownw++(own++tf)) _ hC G2 ?_
   have po2:JaG W C (Ma++(Mb++Mc)) R1 tf fs env σ H Q ((cc env2).bind fun x env=>R.of (Qe (.dct g ks ds) y x) env):=po0
   have i2:=i1.step (own2:=ownw) s2 (Yv (M:=Mb) (by
    unfold djB at h1 ⊢;simp at h1 ⊢;exact fun x hx=>(h1 x hx).1))
   cases e3:cc env2 with
   | err=>rw[e3]at po2;exact po2
   | ex x env'=>rw[e3]at po2;exact fun cv dd fs' H' G' s=>po2 cv dd fs' H' G'.drop.drop ((s1.trans (s2.weak (fun _ z=>z) fun x hx=>List.mem_append_right _ hx)).trans (s.weak (fun _ z=>z) fun x hx=>List.mem_append_right _ (List.mem_append_right _ hx)) |>.weak (fun i hi=>by
     rcases List.mem_append.mp hi with z | z
     ·rcases List.mem_append.mp z with z | z<;>simp[z]
     ·simp[z]) fun _ z=>z)
   | ok x env3 =>
    rw[e3]at po2
    intro vx fs3 H3 fx G3 s3 rx
    have po3:JaG W C (Ma++(Mb++Mc)) R1 tf fs env σ H Q (R.of (Qe (.dct g ks ds) y x) env3):=po2
    have hMb:∀r∈R1,r∉Mb:=Yv (by unfold djB at h1 ⊢;simp at h1 ⊢;exact fun x hx=>(h1 x hx).1)
    have hMc:∀r∈R1,r∉Mc:=Yv (by unfold djB at h1 ⊢;simp at h1 ⊢;exact fun x hx=>(h1 x hx).2)
    have s3w:Step Mc ((ownw++own)++tf) fs2 env2 H2 fs3 env3 H3:=s3.weak (fun _ z=>z) fun x hx=>by rw[List.append_assoc]at hx;exact hx
    have r2:Rep C H3 (.dct g ks ds) (.ref ad) fp:=(r0.keep (i1.keep s2 hMb) s2.m).keep (i2.keep s3w hMc) s3.m
    have rw3:Rep C H3 y w fw:=rw'.keep (iw.keep (tf:=own++tf) s3 (Yv h2)) s3.m
    cases e4:Qe (.dct g ks ds) y x with
    | none=>rw[e4]at po3;exact po3.elim
    | some z =>
     rw[e4]at po3
     obtain⟨ky,hky,rfl⟩:=Option.map_eq_some_iff.mp e4
     obtain⟨ov,hg,hov⟩:=get_fin G3.fr r2 hky rw3
     refine⟨ov,hg,?_⟩
     have st:=(s1.trans (s2.weak (M':=Mb) (tf':=tf) (fun _ z=>z) fun x hx=>List.mem_append_right _ hx)).trans (s3.weak (M':=Mc) (tf':=tf) (fun _ z=>z) fun x hx=>List.mem_append_right _ (List.mem_append_right _ hx))
     have st':Step (Ma++(Mb++Mc)) tf fs env H fs3 env3 H3:=st.weak (fun i hi=>by
      rcases List.mem_append.mp hi with z | z
      ·rcases List.mem_append.mp z with z | z<;>simp[z]
      ·simp[z]) fun _ z=>z
     cases e6:Yb ks ds ky with
     | none =>
      rw[e6]at hov
      subst hov
      rw[e6]at po3
      exact po3 vx fs3 H3 fx fx (G3.sub ((List.Sublist.refl _).append ((List.sublist_append_right _ _).trans (List.sublist_append_right _ _)))) st' rx fun a ha=>.inl ha
     | some x' =>
      rw[e6]at hov
      obtain⟨vx',hx,rfl,k2,k3⟩:=hov
      rw[e6]at po3
      refine po3 vx' fs3 H3 hx (ownw++own) (G3.sub ?_) st' k2 fun a ha=>?_
      ·rw[List.append_assoc];exact List.sublist_append_right _ _
      ·exact(i2.step (own2:=[]) (tf:=tf) s3w hMc).mono (fun _ z=>z) (fun a ha=>by simpa using ha) a (k3 a ha)
 all_goals skip
theorem Foc.same {d:D} {v:V} {g1:List Addr} {d':D} {v':V} {fp' g2:List Addr} {F:D→D} (Fo:Foc C H d v g1 d' v' fp' g2 F):Rep C H (F d') v (g1++fp'++g2):=Fo.back H d' fp' (.refl H) (fun _ _=>rfl) Fo.here
theorem reps_snoc {ds:List D} {vs:List V} {x:D} {v:V} {f g:List Addr} (r:Reps C H ds vs f) (rx:Rep C H x v g):Reps C H (ds++[x]) (vs++[v]) (f++g):=JU r ⟨v,[],g,[],rfl,rx,⟨rfl,rfl⟩,by simp⟩
end
end VS
namespace VS
open PySem L2 SeqAt PySem.Spec PyProof.Rows
section
variable {X:Cx} {C:Ctx} {H H':Hp}
theorem JaB:∀{ds:List D} {vs:List V} {f:List Addr} (n:Nat),Reps C H ds vs f→∃g1 g2,f=g1++g2∧Reps C H (ds.take n) (vs.take n) g1∧Reps C H (ds.drop n) (vs.drop n) g2
 | ds,vs,f,0,r=>⟨[],f,by simp,⟨rfl,rfl⟩,by simpa using r⟩
 | [],vs,f,n+1,r=>by obtain⟨h1,h2⟩:=r;subst h1 h2;exact⟨[],[],rfl,⟨rfl,rfl⟩,⟨rfl,rfl⟩⟩
 | d::ds,vs,f,n+1,⟨v,vs',f1,f2,e,r,rs,e2⟩=>by
  obtain⟨g1,g2,h1,h2,h3⟩:=JaB n rs
  subst e e2 h1
  exact⟨f1++g1,g2,by simp,⟨v,vs'.take n,f1,g1,by simp,r,h2,rfl⟩,by simpa using h3⟩
theorem list_upd {ds':List D} {vs vs':List V} {a:Addr} {f f' fpa:List Addr} (hH:H a=some (.lst vs)) (nd:(a::f++fpa).Nodup) (h:∀H',Mono H H'→(∀b∈f++fpa,H' b=H b)→Reps C H' ds' vs' f') :
  Mono H (upd H a (.lst vs'))∧(∀b o,H b=some o→b∉a::f→upd H a (.lst vs') b=some o)∧Rep C (upd H a (.lst vs')) (.lst .m ds') (.ref a) (a::f')∧∀b∈f++fpa,upd H a (.lst vs') b=H b:=by
 have m:=Mono.upd (o:=.lst vs') hH trivial
 have nda:a∉f++fpa:=(List.nodup_cons.mp (by simpa using nd)).1
 have kp:∀b∈f++fpa,upd H a (.lst vs') b=H b:=fun b hb=>upd_ne fun z=>nda (z ▸ hb)
 refine⟨m,fun b o e hb=>?_,⟨a,vs',[a],f',rfl,⟨upd_same,rfl⟩,h _ m kp,.inl rfl,rfl⟩,kp⟩
 rw[upd_ne fun z=>hb (by simp[z])];exact e
def Zv:D→List D→Option (D × D)
 | .lst .m ds,[.int i,x]=>if ds.length < sizeLine∧0≤i∧i < 2 ^ 63 then some (.lst .m (ds.take i.toNat++[x]++ds.drop i.toNat),.non) else none
 | _,_=>none
theorem mu_insert:MuOk X "list" (fun x vs H Q=>∃(l:Addr) (xs:List V) (i:Int) (y:V),x=.ref l∧vs=[.int i,y]∧H l=some (.lst xs)∧xs.length < sizeLine∧0≤i∧i < 2 ^ 63∧Q .non (upd H l (.lst (xs.take i.toNat++[y]++xs.drop i.toNat)))) kdL Zv:=by
 refine⟨?_,JcC⟩
 intro C H v d fp vs ds fpa Q d' res hC hF r ra nd h k
 unfold Zv at h
 split at h
 case h_2=>cases h
 rename_i ds i x
 split at h
 case isFalse=>cases h
 rename_i hz
 cases h
 obtain⟨a,ws,f,rfl,hH,rs,rfl⟩:=JcI r
 obtain⟨vi,vx,f1,f2,rfl,ri,rx,rfl⟩:=Jcp ra
 obtain⟨rfl,rfl⟩:=ri
 obtain⟨g1,g2,rfl,h1,h2⟩:=JaB i.toNat rs
 obtain⟨m,ch,rp,_⟩:=list_upd (C:=C) (ds':=ds.take i.toNat++[x]++ds.drop i.toNat) (vs':=ws.take i.toNat++[vx]++ws.drop i.toNat) (f:=g1++g2) (f':=g1++f2++g2) (fpa:=f2) hH (by simpa using nd) fun H' m k =>
  JU (reps_snoc (h1.keep (fun b hb=>k b (by simp[hb])) m) (rx.keep (fun b hb=>k b (by simp[hb])) m)) (h2.keep (fun b hb=>k b (by simp[hb])) m)
 refine⟨a,ws,i,vx,rfl,rfl,hH,by rw[←Je rs];exact hz.1,hz.2.1,hz.2.2,?_⟩
 refine k _ .non (a::(g1++f2++g2)) [] m ch rp ⟨rfl,rfl⟩ ?_ fun b hb=>?_
 ·have p:(a::(g1++f2++g2)++[]).Perm (a::(g1++g2)++([]++f2)):=by
   simp only[List.append_nil,List.nil_append,List.cons_append]
   refine List.Perm.cons a ?_
   rw[List.append_assoc,List.append_assoc]
   exact List.Perm.append_left g1 List.perm_append_comm
  exact p.nodup_iff.mpr nd
 ·simp at hb ⊢
  rcases hb with z | z | z | z<;>simp[z]
end
section
variable {X:Cx} {W:WX} {Ma Mb Mc V1 V2 V3 Rs R1 R2 R3:List Nat} {e f a b c tg o:Expr} {es:List Expr} {ca cb cc:CE} {cs:CA} {ct:CT} {pos p apos cpos:Pos} {cl:CL} {i:Nat}
theorem so_insert (ho:SL X W i Ma o cl) (ha:SAO X W Mb (e::es) cs)
  (hi:djB [i] Mb=true) (hbase:attributeBase o "insert" X.env (eval o X.env)=eval o X.env)
  (hfew:((backTo cpos (starEach (e::es) X.env)).all (fun x=>!x.1) && (backToKw cpos (keywordEach [] X.env)).all (fun x=>x.1.isSome)
   && decide ((e::es).length+([]:List Keyword).length+(if ([]:List Keyword).isEmpty then 0 else 1) < 30))=true)
  (hline:(apos.endLine == cpos.line)=true) (hs:starEach (e::es) X.env=(false,eval e X.env)::starEach es X.env) (hplain:(backTo cpos (starEach es X.env)).any (·.1)=false) :
  SO X W (Ma++(Mb++[i])) (.Call (.Attribute o "insert" apos) (e::es) [] cpos) (cMut i kdL Zv cl cs) :=
 Jca mu_insert PySem.F.plainAttrs_list PySem.F.slot_list_insert PySem.F.type_list_insert mt_insert ho ha hi hbase hfew hline hs hplain
end
end VS
namespace VS
open PySem L2 SeqAt PySem.Spec PyProof.Rows
mutual
def D.py:D→Option PyData
 | .non=>some .none
 | .bl b=>some (.bool b)
 | .int i=>some (.int i)
 | .str s=>some (.str s)
 | .tup ds=>(pys ds).map .tuple
 | .lst _ ds=>(pys ds).map .list
 | _=>none
def pys:List D→Option (List PyData)
 | []=>some []
 | d::ds=>d.py.bind fun y=>(pys ds).map fun ys=>y::ys
end
def pyO (d:D):PyData:=d.py.getD .none
section
variable {X:Cx} {C:Ctx} {H H':Hp} {pins:List (Addr × Obj)} {σ:L2.St} {s:Shared}
mutual
theorem Ui (I:Inv X pins σ H s) (hC:C.At X) (hF:Fr C H):∀{d:D} {y:PyData} {v:V} {fp:List Addr} {u:Value},d.py=some y→Rep C H d v fp→RelV v u→∃as,Reads s.heap u y as∧∀a∈as,a < s.heap.objs.size
 | .non,y,v,fp,u,h,⟨e,_⟩,r=>by cases h;subst e;cases (show u=Value.none from r);exact⟨[],.none,fun _ z=>nomatch z⟩
 | .bl b,y,v,fp,u,h,⟨e,_⟩,r=>by cases h;subst e;cases (show u=Value.bool b from r);exact⟨[],.bool b,fun _ z=>nomatch z⟩
 | .int i,y,v,fp,u,h,⟨e,_⟩,r=>by cases h;subst e;obtain⟨t,rfl⟩:=(show ∃t,u=Value.int i t from r);exact⟨[],.int i t,fun _ z=>nomatch z⟩
 | .str z,y,v,fp,u,h,⟨e,_⟩,r=>by cases h;subst e;obtain⟨t,rfl⟩:=(show ∃t,u=Value.str z t from r);exact⟨[],.str z t,fun _ z=>nomatch z⟩
 | .tup ds,y,v,fp,u,h,rp,r=>by
  obtain⟨ys,hy,rfl⟩:=Option.map_eq_some_iff.mp h
  obtain⟨a,vs,rfl,q,rs⟩:=Ju hC rp
  cases (show u=Value.ref a from r)
  obtain⟨its,rv,⟨o,e,hc,n,hd⟩,_⟩:=I.tuple q
  obtain⟨as,h1,h2⟩:=readsAll_rep I hC hF hy rs rv
  exact⟨as,.tuple e hc hd (by simpa using h1),h2⟩
 | .lst g ds,y,v,fp,u,h,rp,r=>by
  obtain⟨ys,hy,rfl⟩:=Option.map_eq_some_iff.mp h
  obtain⟨a,vs,f,rfl,q,rs⟩:=Jj hC hF rp
  cases (show u=Value.ref a from r)
  obtain⟨its,rv,⟨o,n,e,hc,hdi,hd⟩,_⟩:=I.list q
  obtain⟨as,h1,h2⟩:=readsAll_rep I hC hF hy rs rv
  exact⟨a::as,.list e hc hd (by simpa using h1),fun b hb=>by
   rcases List.mem_cons.mp hb with z | z
   ·rw[z];exact Heap.lt_size e
   ·exact h2 b z⟩
 | .ty _,_,_,_,_,h,_,_=>by cases h
 | .dct _ _ _,_,_,_,_,h,_,_=>by cases h
 | .obj _ _ _ _,_,_,_,_,h,_,_=>by cases h
 | .exc _ _ _,_,_,_,_,h,_,_=>by cases h
theorem readsAll_rep (I:Inv X pins σ H s) (hC:C.At X) (hF:Fr C H):∀{ds:List D} {ys:List PyData} {vs:List V} {fp:List Addr} {us:List Value},pys ds=some ys→Reps C H ds vs fp→Vals vs us→∃as,ReadsAll s.heap us ys as∧∀a∈as,a < s.heap.objs.size
 | [],ys,vs,fp,us,h,⟨e,_⟩,r=>by cases h;subst e;cases r;exact⟨[],.nil,fun _ z=>nomatch z⟩
 | d::ds,ys,vs,fp,us,h,⟨v,vs',f1,f2,e,rd,rs,_⟩,r=>by
  obtain⟨y,hy,h⟩:=Option.bind_eq_some_iff.mp h
  obtain⟨ys',hys,rfl⟩:=Option.map_eq_some_iff.mp h
  subst e
  cases r with
  | cons r1 r2 =>
   obtain⟨as,h1,h2⟩:=Ui I hC hF hy rd r1
   obtain⟨bs,h3,h4⟩:=readsAll_rep I hC hF hys rs r2
   exact⟨as++bs,.cons h1 h3,fun a ha=>(List.mem_append.mp ha).elim (h2 a) (h4 a)⟩
end
theorem Jbn:∀{ds:List D} {ys:List PyData},pys ds=some ys→ys=ds.map pyO
 | [],ys,h=>by cases h;rfl
 | d::ds,ys,h=>by
  obtain⟨y,hy,h⟩:=Option.bind_eq_some_iff.mp h
  obtain⟨ys',hys,rfl⟩:=Option.map_eq_some_iff.mp h
  simp[pyO,hy,Jbn hys]
theorem QZ:∀{ds:List D} {ys:List PyData} {d:D},pys ds=some ys→d∈ds→d.py=some (pyO d)
 | d0::ds,ys,d,h,hd=>by
  obtain⟨y,hy,h⟩:=Option.bind_eq_some_iff.mp h
  obtain⟨ys',hys,rfl⟩:=Option.map_eq_some_iff.mp h
  rcases List.mem_cons.mp hd with z | z
  ·subst z;simp[pyO,hy]
  ·exact QZ hys z
theorem JaA:∀{ds:List D} {vs:List V} {us:List Value},ds.length=vs.length→Vals vs us→PySem.W.EachIs (fun (u:Value) (b:D × V)=>RelV b.2 u) us (ds.zip vs)
 | [],[],us,_,r=>by cases r;exact .nil
 | d::ds,v::vs,us,h,r=>by
  cases r with
  | cons r1 r2=>exact .cons r1 (JaA (by simpa using h) r2)
theorem ZN (I:Inv X pins σ H s) (hC:C.At X) (hF:Fr C H):∀{ds:List D} {ys:List PyData} {vs:List V} {fp:List Addr} {us:List Value},pys ds=some ys→Reps C H ds vs fp→Vals vs us →
  PySem.W.EachIs (fun (u:Value) (b:D × V)=>∃as,Reads s.heap u (pyO b.1) as∧∀a∈as,a < s.heap.objs.size) us (ds.zip vs)
 | [],ys,vs,fp,us,h,⟨e,_⟩,r=>by subst e;cases r;exact .nil
 | d::ds,ys,vs,fp,us,h,⟨v,vs',f1,f2,e,rd,rs,_⟩,r=>by
  obtain⟨y,hy,h⟩:=Option.bind_eq_some_iff.mp h
  obtain⟨ys',hys,rfl⟩:=Option.map_eq_some_iff.mp h
  subst e
  cases r with
  | cons r1 r2 =>
   obtain⟨as,h1,h2⟩:=Ui I hC hF hy rd r1
   exact .cons ⟨as,by simpa [pyO,hy] using h1,h2⟩ (ZN I hC hF hys rs r2)
theorem Qy:∀{us:List Value} {bs:List (D × V)},PySem.W.EachIs (fun (u:Value) (b:D × V)=>RelV b.2 u) us bs→Vals (bs.map (·.2)) us
 | [],[],_=>.nil
 | u::us,b::bs,h=>by
  cases h with
  | cons h1 h2=>exact .cons h1 (Qy h2)
theorem YZ:∀{bs:List (D × V)},(∀b∈bs,Rep C H b.1 b.2 [])→Reps C H (bs.map (·.1)) (bs.map (·.2)) []
 | [],_=>⟨rfl,rfl⟩
 | b::bs,h=>⟨b.2,bs.map (·.2),[],[],rfl,h b (by simp),YZ fun c hc=>h c (by simp[hc]),rfl⟩
theorem Uz:∀{ds:List D} {vs:List V},Reps C H ds vs []→∀b∈ds.zip vs,Rep C H b.1 b.2 []
 | [],vs,_,b,hb=>by simp at hb
 | d::ds,vs,⟨v,vs',f1,f2,e,r,rs,e2⟩,b,hb=>by
  subst e
  obtain⟨z1,z2⟩:=List.append_eq_nil_iff.mp e2.symm
  subst z1 z2
  rw[List.zip_cons_cons]at hb
  rcases List.mem_cons.mp hb with z | z
  ·subst z;exact r
  ·exact Uz rs b z
end
def leD (a b:D):Bool:=PySem.W.dataLe false pyO a b
def JaD (ds:List D):Bool:=ds.all fun d=>ds.all fun e=>PySem.W.alike (pyO d) (pyO e)
def Zx (ds:List D):Bool:=(ds.all fun d=>match pyO d with
 | .tuple (_::_)=>true
 | _=>false) || ds.all fun d=>match pyO d with
 | .none=>false
 | .tuple _=>false
 | _=>true
def ZY (ds:List D):Bool:=ds.all fun d=>decide ((pyO d).depth≤20)
def UR (ds:List D):Bool:=(pys ds).isSome && imms ds && JaD ds && Zx ds && ZY ds && decide (ds.length≤sizeLine)
theorem Qz {ds:List D} (h:JaD ds=true):PySem.W.AllAlike (ds.map pyO):=by
 intro x hx y hy
 obtain⟨d,hd,rfl⟩:=List.mem_map.mp hx
 obtain⟨e,he,rfl⟩:=List.mem_map.mp hy
 exact List.all_eq_true.mp (List.all_eq_true.mp h d hd) e he
theorem ZT {ds:List D} (h:Zx ds=true):PySem.W.Sortable (ds.map pyO):=by
 rcases Bool.or_eq_true_iff.mp h with h | h
 ·left
  intro x hx
  obtain⟨d,hd,rfl⟩:=List.mem_map.mp hx
  have:=List.all_eq_true.mp h d hd
  split at this
  ·rename_i y r e;exact⟨y,r,e⟩
  ·cases this
 ·right
  intro x hx
  obtain⟨d,hd,rfl⟩:=List.mem_map.mp hx
  have:=List.all_eq_true.mp h d hd
  split at this
  ·cases this
  ·cases this
  ·rename_i h1 h2
   exact⟨h1,fun xs e=>h2 xs e⟩
section
variable {X:Cx} {C:Ctx} {H H':Hp} {pins:List (Addr × Obj)} {σ:L2.St} {s:Shared}
theorem Qk {α β:Type}:∀{xs:List α} {ys:List β},xs.length=ys.length→(xs.zip ys).map (·.1)=xs
 | [],[],_=>rfl
 | x::xs,y::ys,h=>by simp[Qk (xs:=xs) (ys:=ys) (by simpa using h)]
theorem Qv (I:Inv X pins σ H s) {k:Nat} (hr:Room k X.A) (hC:C.At X) (hF:Fr C H) {u:Value} {ds:List D} {vs:List V} {Q:VK} (hok:UR ds=true) (rs:Reps C H ds vs [])
  (hcoll:∀{R:List Value→Shared→Prop} {E:Value→Shared→Prop},(∀h' tk us,(∀b o,s.heap.get? b=some o→h'.get? b=some o)→Vals vs us→R us { s with heap:=h',toks:=tk })→wpAny (model X.prog X.w) X.A.in1 (collect u) R E s)
  (hq:∀p,H p=none→∀vs',Reps C H (ds.mergeSort leD) vs' []→Q (.ref p) (upd H p (.lst vs'))):wpAny (model X.prog X.w) X.A (call (.builtin "sorted") [u]) (EP X pins σ Q) X.xe s:=by
 obtain⟨h6,hlen⟩:=Bool.and_eq_true_iff.mp hok
 obtain⟨h5,hsh⟩:=Bool.and_eq_true_iff.mp h6
 obtain⟨h4,hso⟩:=Bool.and_eq_true_iff.mp h5
 obtain⟨h3,hal⟩:=Bool.and_eq_true_iff.mp h4
 obtain⟨h2,hi⟩:=Bool.and_eq_true_iff.mp h3
 obtain⟨ys,hys⟩:=Option.isSome_iff_exists.mp h2
 have hlen:=of_decide_eq_true hlen
 have lv:ds.length=vs.length:=Je rs
 refine Calls.call_function_entry PyProof.Rows.kind_sorted PyProof.Rows.plain_sorted PyProof.Rows.entry_sorted (PyProof.Rows.args_sorted1 _) ?_
 unfold Builtin.«sorted»
 refine wpAny_bind (m:=checkCount "sorted" 1 1 _) (wpAny_pure ?_)
 refine wpAny_bind (hcoll fun h' tk us hk rv=>?_)
 have lu:us.length=ds.length:=by rw[lv,rv.length]
 have I1:Inv X pins σ H { s with heap:=h',toks:=tk }:=I.kept hk
 have er0:=ZN I1 hC hF hys rs rv
 refine wpAny_bind (wpAny_newList ?_ (by rw[lu];exact hlen))
 have hoL:(h'.push (seqObj "list" us.toArray 0)).get? h'.objs.size=some (seqObj "list" us.toArray 0):=Heap.get?_push_size _ rfl
 show wpAny _ _ _ _ _ { s with heap:=h'.push (seqObj "list" us.toArray 0),toks:=tk }
 have er1:PySem.W.EachIs (fun (u:Value) (b:D × V)=>∃as,Reads (h'.push (seqObj "list" us.toArray 0)) u (pyO b.1) as∧h'.objs.size∉as) us (ds.zip vs) :=
  er0.mono fun u b ⟨as,r,l⟩=>⟨as,PyProof.Rows.Reads.keeps (fun _ _ e=>Heap.get?_push_of_some _ e) r,fun z=>Nat.lt_irrefl _ (l _ z)⟩
 have hz1:(ds.zip vs).map (fun b=>pyO b.1)=ds.map pyO:=by
  have e:=congrArg (List.map pyO) (Qk lv)
  rw[List.map_map]at e;exact e
 have hal':PySem.W.AllAlike ((ds.zip vs).map (fun b=>pyO b.1)):=by rw[hz1];exact Qz hal
 have hso':PySem.W.Sortable ((ds.zip vs).map (fun b=>pyO b.1)):=by rw[hz1];exact ZT hso
 have er2:PySem.W.EachIs (fun (u:Value) (b:D × V)=>∃as,Reads (PySem.W.sortingHeap (h'.push (seqObj "list" us.toArray 0)) h'.objs.size us) u (pyO b.1) as) us (ds.zip vs) :=
  PySem.W.each_keepBut (h':=PySem.W.sortingHeap (h'.push (seqObj "list" us.toArray 0)) h'.objs.size us) (fun _ _ hb q=>PySem.W.sortingHeap_old hb q) (fun o q=>by rw[hoL]at q;rw[←Option.some.inj q]) hal' er1
 have lz:(ds.zip vs).length=us.length:=by simp;omega
 have hun:∀b∈ds.zip vs,X.A.in1.in1.units+(pyO b.1).depth < cLine:=fun b hb=>by
  have h1:=of_decide_eq_true (List.all_eq_true.mp hsh b.1 (List.of_mem_zip hb).1)
  have:=hr.units
  show X.A.units+1+1+_ < _
  omega
 have er3:=er1.mono fun u b ⟨as,r,l⟩=>(⟨as,r⟩:∃as,Reads (h'.push (seqObj "list" us.toArray 0)) u (pyO b.1) as)
 have eo:=PySem.W.sortVals_data (R:=fun (u:Value) (b:D × V)=>RelV b.2 u) false (JaA lv rv) er2 hal'
 refine wpAny_bind (wpAny_holding (wpAny_call_entry PyProof.Rows.slot_list_sort ⟨_,hoL,rfl⟩ PyProof.Rows.entry_list_sort
  (PySem.W.list_sort_vals (κ:=PySem.W.dataKind (PySem.W.sortingHeap (h'.push (seqObj "list" us.toArray 0)) h'.objs.size us) ((ds.zip vs).map (fun b=>pyO b.1))) (s:={ s with heap:=h'.push (seqObj "list" us.toArray 0),toks:=tk }) hoL
   (PySem.W.SortsAt.data (s:={ s with heap:=PySem.W.sortingHeap (h'.push (seqObj "list" us.toArray 0)) h'.objs.size us,toks:=tk }) (PySem.W.each_map (R:=fun v d=>∃as,Reads (PySem.W.sortingHeap (h'.push (seqObj "list" us.toArray 0)) h'.objs.size us) v d as) (fun b:D × V=>pyO b.1) er2) hal' hso' (PySem.W.bound_map hun)) (by rw[lu];exact hlen) ⟨.none,rfl,?_⟩)
  (PyProof.Rows.args_list_sort _)))
 have hout:=Qy eo
 have hperm:=List.mergeSort_perm (ds.zip vs) (PySem.W.dataLe false fun b:D × V=>pyO b.1)
 have hreps:Reps C H (((ds.zip vs).mergeSort (PySem.W.dataLe false fun b:D × V=>pyO b.1)).map (·.1)) (((ds.zip vs).mergeSort (PySem.W.dataLe false fun b:D × V=>pyO b.1)).map (·.2)) [] :=
  YZ fun b hb=>Uz rs b (hperm.mem_iff.mp hb)
 have hms:((ds.zip vs).mergeSort (PySem.W.dataLe false fun b:D × V=>pyO b.1)).map (·.1)=ds.mergeSort leD:=by
  have hm:=List.map_mergeSort (r:=PySem.W.dataLe false fun b:D × V=>pyO b.1) (s:=leD) (f:=fun b:D × V=>b.1) (l:=ds.zip vs) (fun a _ b _=>rfl)
  rw[hm,Qk lv]
 rw[hms]at hreps
 obtain⟨e',he'⟩:=PyProof.Rows.sortedHeap_at (vs:=us) (out:=(PySem.W.sortVals (PySem.W.dataKind (PySem.W.sortingHeap (h'.push (seqObj "list" us.toArray 0)) h'.objs.size us) ((ds.zip vs).map (fun b=>pyO b.1))) false us us).toArray) hoL
 have hl2:(((ds.zip vs).mergeSort (PySem.W.dataLe false fun b:D × V=>pyO b.1)).map (·.2)).length≤sizeLine:=by
  rw[List.length_map,hperm.length_eq,lz,lu];exact hlen
 refine wpAny_pure ⟨_,rfl,.ref h'.objs.size,upd H h'.objs.size (.lst (((ds.zip vs).mergeSort (PySem.W.dataLe false fun b:D × V=>pyO b.1)).map (·.2))),I1.laid (t':=tk) (fun b u e=>?_) (Nat.le_refl _)
  (show ObjOk X.prog X.w _ _ _ (.lst _) from ⟨hl2,_,e',hout,he'⟩),rfl,hq _ (I1.hok.fresh (Nat.le_refl _)) _ hreps⟩
 have hb:b < h'.objs.size:=Heap.lt_size e
 rw[PyProof.Rows.sortedHeap_old (Nat.ne_of_lt hb) (by rw[size_push'];exact Nat.lt_succ_of_lt hb)]
 exact Heap.get?_push_of_some _ e
end
end VS
namespace VS
open PySem L2 SeqAt PySem.Spec PyProof.Rows
section
variable {X:Cx} {C:Ctx} {H H':Hp} {pins:List (Addr × Obj)} {σ:L2.St} {s:Shared}
def keyD:Key→D
 | .inl i=>.int i
 | .inr s=>.str s
theorem ZA {C:Ctx} {H:Hp}:∀ks:List Key,Reps C H (ks.map keyD) (ks.map kV) []
 | []=>⟨rfl,rfl⟩
 | .inl i::ks=>⟨.int i,ks.map kV,[],[],rfl,⟨rfl,rfl⟩,ZA ks,rfl⟩
 | .inr i::ks=>⟨.str i,ks.map kV,[],[],rfl,⟨rfl,rfl⟩,ZA ks,rfl⟩
def Jc0:D→Option (List D)
 | .lst _ ds=>some ds
 | .tup ds=>some ds
 | .dct _ ks _=>some (ks.map keyD)
 | _=>none
def Yn:List D→Option D
 | [d]=>(Jc0 d).bind fun ds=>if UR ds then some (.lst .m (ds.mergeSort leD)) else none
 | _=>none
theorem sortOk_imms {ds:List D} (h:UR ds=true):imms ds=true:=by
 unfold UR at h
 simp only[Bool.and_eq_true]at h
 exact h.1.1.1.1.2
theorem UM.lst' {C:Ctx} {H:Hp} {es:List D} {Q:VK} (k:UM C H (.lst .m es) Q) {vs:List V} (rs:Reps C H es vs []) {p:Addr} (hp:H p=none):Q (.ref p) (upd H p (.lst vs)) :=
 k (.ref p) _ [p] (Le.new hp) ⟨p,vs,[p],[],rfl,⟨upd_same,rfl⟩,rs.le (Le.new hp),.inl rfl,rfl⟩ (by simp) (by simpa using hp)
theorem od_sortedG {k:Nat} (hr:Room k X.A) (hcalm:X.calm=true):ODL X (.builtin "sorted") Yn:=by
 intro pins s σ H xs us Q I rv ⟨C,ds0,fx,d,hC,hF,rs,e,kk⟩
 unfold Yn at e
 split at e
 case h_2=>cases e
 rename_i d0
 obtain⟨v,rfl,r⟩:=YR rs
 obtain⟨u,rfl,ru⟩:=vals1 rv
 obtain⟨ds,hco,e⟩:=Option.bind_eq_some_iff.mp e
 split at e
 case isFalse=>cases e
 rename_i hok
 cases e
 have hi:=sortOk_imms hok
 have fin:∀p,H p=none→∀vs',Reps C H (ds.mergeSort leD) vs' []→Q (.ref p) (upd H p (.lst vs')):=fun p hp vs' rs'=>kk.lst' rs' hp
 cases d0 with
 | lst g es =>
  cases hco
  obtain⟨a,vs,f,rfl,q,rz⟩:=Jj hC hF r
  have z:=rz.imm hi
  subst z
  cases (show u=Value.ref a from ru)
  obtain⟨its,rv2,⟨o,n,ho,hc,hdi,hd⟩,hz⟩:=I.list q
  refine Qv I hr hC hF hok rz (fun hR=>?_) fin
  exact wpAny_collect_seq a (T := "list") (.inl rfl) ho hc hd (fun h' hk=>hR h' s.toks its hk rv2) (by rw[List.size_toArray,←rv2.length];exact hz)
 | tup es =>
  cases hco
  obtain⟨a,vs,rfl,q,rz⟩:=Ju hC r
  have z:=rz.imm hi
  subst z
  cases (show u=Value.ref a from ru)
  obtain⟨its,rv2,⟨o,ho,hc,n,hd⟩,hz⟩:=I.tuple q
  refine Qv I hr hC hF hok rz (fun hR=>?_) fin
  exact wpAny_collect_seq a (T := "tuple") (.inr rfl) ho hc hd (fun h' hk=>hR h' s.toks its hk rv2) (by rw[List.size_toArray,←rv2.length];exact hz)
 | dct g ks es =>
  cases hco
  obtain⟨a,kvs,f1,f2,rfl,hd,hks,_,_⟩:=UT hF r
  cases (show u=Value.ref a from ru)
  obtain⟨z,lo,vs,rel,dd⟩:=dk_rd I.hok hd
  obtain⟨ep,hat⟩:=dd.dictAt
  have h16:vs.length≤sizeLine:=by rw[←rel.length];exact z
  have hkv:kvs.map (·.1)=vs.map (·.1):=rel.keys
  have hmap:vs.map (fun p=>kV p.1)=ks.map kV:=by
   rw[←hks,hkv,List.map_map];rfl
  refine Qv I hr hC hF hok (ZA ks) (fun hR=>?_) fin
  refine PySem.W.kdu_collect (PySem.W.kdl_dict (knd:=mixKind X.prog X.w) (kvs:=vs) (ep:=ep) lo) (I.ok.hd hcalm) hat h16 fun h' tk acc hk hacc=>hR h' tk _ hk ?_
  rw[←hmap]
  exact keys_at (by rw[Array.length_toList];exact hacc.1) fun j v e=>hacc.2 j v (by rw[←Array.getElem?_toList];exact e)
 | _=>cases hco
def QT:PyData→Bool
 | .none=>false
 | _=>true
def JbH (f:PyData→PyData→Bool):D→D→Option D:=fun x y=>match x.py,y.py with
 | some a,some b=>if PySem.W.alike a b∧decide (a.depth≤20)=true∧QT a=true then some (.bl (f a b)) else none
 | _,_=>none
theorem Jbk {op:CmpOp} {f:PyData→PyData→Bool} {k:Nat} (hr:Room k X.A)
  (h:∀{A:Around} {E:Value→Shared→Prop} {s:Shared} {a b:Value} {da db:PyData} {as bs:List Addr} {Q:Value→Shared→Prop},Reads s.heap a da as→Reads s.heap b db bs→PySem.W.alike da db=true→da≠.none→A.units+min da.depth db.depth < cLine→Q (.bool (f da db)) s→wpAny (model X.prog X.w) A (compareOp op a b) Q E s) :
  OD2 X (compareOp op) (JbH f):=by
 intro pins s σ H x y v u Q I rx ry ⟨C,dx,dy,fx,fy,d,hC,hF,r1,r2,e,kk⟩
 unfold JbH at e
 split at e
 case h_2=>cases e
 rename_i a b ha hb
 split at e
 case isFalse=>cases e
 rename_i hc
 cases e
 obtain⟨as,ra,_⟩:=Ui I hC hF ha r1 rx
 obtain⟨bs,rb,_⟩:=Ui I hC hF hb r2 ry
 refine h ra rb hc.1 (fun z=>by subst z;exact absurd hc.2.2 (by simp[QT])) (by
  have h1:=of_decide_eq_true hc.2.1
  have:=hr.units
  have:min a.depth b.depth≤a.depth:=Nat.min_le_left _ _
  omega) ⟨.bl _,H,I,rfl,kk.here ⟨rfl,rfl⟩⟩
def pLtG:D→D→Option D:=orP2 pLtI (JbH fun a b=>PySem.W.dataLt a b)
def pGtG:D→D→Option D:=orP2 pGtI (JbH fun a b=>PySem.W.dataLt b a)
def pGeG:D→D→Option D:=orP2 pGeI (JbH fun a b=>!PySem.W.dataLt a b)
theorem od_ltG {k:Nat} (hr:Room k X.A):OD2 X (compareOp .Lt) pLtG:=od_ltI.or (Jbk hr fun a b c d e f=>PySem.W.lt_data a b c d e f)
theorem od_gtG {k:Nat} (hr:Room k X.A):OD2 X (compareOp .Gt) pGtG:=od_gtI.or (Jbk hr fun a b c d e f=>PySem.W.gt_data a b c d e f)
theorem od_geG {k:Nat} (hr:Room k X.A):OD2 X (compareOp .GtE) pGeG:=od_geI.or (Jbk hr fun a b c d e f=>PySem.W.ge_data a b c d e f)
def Yi:List D→Option D
 | [.dct _ ks _]=>some (.lst .m (ks.map keyD))
 | ds=>JbR ds
theorem Qg (hcalm:X.calm=true):ODL X (.type "list") Yi:=by
 intro pins s σ H xs us Q I rv ⟨C,ds0,fx,d,hC,hF,rs,e,kk⟩
 unfold Yi at e
 split at e
 ·rename_i g ks ds
  cases e
  obtain⟨v,rfl,r⟩:=YR rs
  obtain⟨a,kvs,f1,f2,rfl,hd,hks,_,_⟩:=UT hF r
  refine call_listD hcalm pins s σ H _ us Q I rv ⟨a,kvs,rfl,hd,fun p hp=>?_⟩
  have:(kvs.map fun kv=>kV kv.1)=ks.map kV:=by rw[←hks,List.map_map];rfl
  rw[this]
  exact kk.lst' (ZA ks) hp
 ·exact od_list pins s σ H xs us Q I rv ⟨C,ds0,fx,d,hC,hF,rs,e,kk⟩
mutual
def ZC:D→Bool
 | .tup ds=>noLsts ds
 | .non=>true
 | .bl _=>true
 | .int _=>true
 | .str _=>true
 | _=>false
def noLsts:List D→Bool
 | []=>true
 | d::ds=>ZC d && noLsts ds
end
mutual
theorem Jc3:∀{d e:D} {y:PyData},ZC d=true→ZC e=true→d.py=some y→e.py=some y→d=e
 | .non,e,y,_,he,h1,h2=>by
  cases h1
  cases e<;>simp[D.py,ZC]at *
 | .bl b,e,y,_,he,h1,h2=>by
  cases h1
  cases e<;>simp[D.py,ZC]at *
  all_goals first | exact h2.symm | skip
 | .int b,e,y,_,he,h1,h2=>by
  cases h1
  cases e<;>simp[D.py,ZC]at *
  all_goals first | exact h2.symm | skip
 | .str b,e,y,_,he,h1,h2=>by
  cases h1
  cases e<;>simp[D.py,ZC]at *
  all_goals first | exact h2.symm | skip
 | .tup ds,e,y,hd,he,h1,h2=>by
  obtain⟨ys,hy,rfl⟩:=Option.map_eq_some_iff.mp h1
  cases e with
  | tup es =>
   obtain⟨zs,hz,e⟩:=Option.map_eq_some_iff.mp h2
   cases e
   rw[pys_inj (ds:=ds) (es:=es) hd he hy hz]
  | lst g es=>cases he
  | _=>simp[D.py]at h2
 | .exc _ _ _,_,_,h,_,_,_=>by cases h
 | .ty _,_,_,h,_,_,_=>by cases h
 | .lst _ _,_,_,h,_,_,_=>by cases h
 | .dct _ _ _,_,_,h,_,_,_=>by cases h
 | .obj _ _ _ _,_,_,h,_,_,_=>by cases h
theorem pys_inj:∀{ds es:List D} {ys:List PyData},noLsts ds=true→noLsts es=true→pys ds=some ys→pys es=some ys→ds=es
 | [],es,ys,_,_,h1,h2=>by
  cases h1
  cases es with
  | nil=>rfl
  | cons e es =>
   obtain⟨y,hy,h2⟩:=Option.bind_eq_some_iff.mp h2
   obtain⟨ys',hys,e⟩:=Option.map_eq_some_iff.mp h2
   cases e
 | d::ds,es,ys,hd,he,h1,h2=>by
  obtain⟨y,hy,h1⟩:=Option.bind_eq_some_iff.mp h1
  obtain⟨ys',hys,rfl⟩:=Option.map_eq_some_iff.mp h1
  cases es with
  | nil=>cases h2
  | cons e es =>
   obtain⟨y2,hy2,h2⟩:=Option.bind_eq_some_iff.mp h2
   obtain⟨ys2,hys2,e2⟩:=Option.map_eq_some_iff.mp h2
   cases e2
   have hd:=Bool.and_eq_true_iff.mp hd
   have he:=Bool.and_eq_true_iff.mp he
   rw[Jc3 hd.1 he.1 hy hy2,pys_inj hd.2 he.2 hys hys2]
end
def Zt (f:PyData→PyData→Bool):List D→D→D
 | [],a=>a
 | y::ds,a=>Zt f ds (if f (pyO y) (pyO a) then y else a)
def JbX (ds:List D):Bool:=(pys ds).isSome && noLsts ds && JaD ds && ZY ds && ds.all fun d=>QT (pyO d)
def Jdv:List D→Option D
 | [.lst _ (d::ds)]=>if JbX (d::ds) then some (Zt (fun y a=>PySem.W.dataLt y a) ds d) else none
 | _=>none
theorem Jao (f:PyData→PyData→Bool):∀(ds:List D) (a:D),Zt f ds a=a∨Zt f ds a∈ds
 | [],a=>.inl rfl
 | y::ds,a=>by
  unfold Zt
  split
  ·rcases Jao f ds y with z | z
   ·exact .inr (by rw[z];simp)
   ·exact .inr (by simp[z])
  ·rcases Jao f ds a with z | z
   ·exact .inl z
   ·exact .inr (by simp[z])
theorem JcD (f:PyData→PyData→Bool):∀(ds:List D) (a:D),pyO (Zt f ds a)=(ds.map pyO).foldl (fun a y=>if f y a then y else a) (pyO a)
 | [],a=>rfl
 | y::ds,a=>by
  unfold Zt
  rw[JcD f ds,List.map_cons,List.foldl_cons]
  split<;>rfl
theorem noLst_imm:∀{d:D},ZC d=true→d.imm=true:=by
 have key:∀n:Nat,∀d:D,sizeOf d≤n→ZC d=true→d.imm=true:=by
  intro n
  induction n with
  | zero=>intro d h;cases d<;>simp at h
  | succ n ih =>
   intro d h hd
   cases d with
   | tup ds =>
    have h2:noLsts ds=true:=hd
    show imms ds=true
    have h3:∀d∈ds,sizeOf d≤n:=fun d hd=>by
     have:=List.sizeOf_lt_of_mem hd
     simp at h;omega
    clear h hd
    induction ds with
    | nil=>rfl
    | cons d ds ih2 =>
     have:=Bool.and_eq_true_iff.mp h2
     simp only[imms,ih d (h3 d (by simp)) this.1,ih2 this.2 fun d hd=>h3 d (by simp[hd]),Bool.and_self]
   | lst _ _=>cases hd
   | dct _ _ _=>cases hd
   | obj _ _ _ _=>cases hd
   | exc _ _ _=>cases hd
   | _=>rfl
 exact fun {d} h=>key _ d (Nat.le_refl _) h
theorem UU:∀{ds:List D} {d:D},noLsts ds=true→d∈ds→ZC d=true
 | d0::ds,d,h,hd=>by
  have:=Bool.and_eq_true_iff.mp h
  rcases List.mem_cons.mp hd with z | z
  ·subst z;exact this.1
  ·exact UU this.2 z
theorem noLsts_imms {ds:List D} (h:noLsts ds=true):imms ds=true:=by
 rw[ZS,List.all_eq_true]
 exact fun d hd=>noLst_imm (UU h hd)
end
end VS
namespace VS
open PySem L2 SeqAt PySem.Spec PyProof.Rows
section
variable {X:Cx} {C:Ctx} {H H':Hp} {pins:List (Addr × Obj)} {σ:L2.St} {s:Shared}
def JbY (ds:List D):Bool:=match pys ds with
 | some ys=>decide (PyData.depthAll ys≤20)
 | none=>false
theorem best_of (I:Inv X pins σ H s) (hC:C.At X) (hF:Fr C H) {f:PyData→PyData→Bool} {d0:D} {ds:List D} {vs:List V} {fp:List Addr} {its:List Value} {h':Heap} {i:Nat} {v:Value} {bs:List Addr} (hok:JbX (d0::ds)=true) (rs:Reps C H (d0::ds) vs fp) (rv:Vals vs its)
  (hk:∀b o,s.heap.get? b=some o→h'.get? b=some o) (hi:its[i]?=some v) (hr:Reads h' v ((ds.map pyO).foldl (fun a y=>if f y a then y else a) (pyO d0)) bs):∃w,RelV w v∧Rep C H (Zt f ds d0) w []:=by
 unfold JbX at hok
 simp only[Bool.and_eq_true]at hok
 obtain⟨⟨⟨⟨h1,h2⟩,h3⟩,h4⟩,h5⟩:=hok
 obtain⟨ys,hys⟩:=Option.isSome_iff_exists.mp h1
 have him:=noLsts_imms h2
 have z:=rs.imm him
 subst z
 obtain⟨w,hw,rw'⟩:=Zz rv hi
 obtain⟨d,hd,rd⟩:=YD rs him hw
 have hdm:=List.mem_of_getElem? hd
 have hbm:Zt f ds d0∈d0::ds:=by
  rcases Jao f ds d0 with z | z
  ·rw[z];simp
  ·simp[z]
 obtain⟨as,ra,_⟩:=Ui I hC hF (QZ hys hdm) rd rw'
 rw[←JcD]at hr
 have hal:PySem.W.alike (pyO d) (pyO (Zt f ds d0))=true:=List.all_eq_true.mp (List.all_eq_true.mp h3 d hdm) _ hbm
 have e:=PySem.W.alike_unique _ _ v _ _ hal (PyProof.Rows.Reads.keeps hk ra) hr
 have hdp:=QZ hys hdm
 rw[e]at hdp
 have:d=Zt f ds d0:=Jc3 (UU h2 hdm) (UU h2 hbm) hdp (QZ hys hbm)
 subst this
 exact⟨w,rw',rd⟩
theorem minOk_alike {ds:List D} {ys:List PyData} (h:JbX ds=true) (hy:pys ds=some ys):PySem.W.AlikeAll ys:=by
 unfold JbX at h
 simp only[Bool.and_eq_true]at h
 have e:=Jbn hy
 subst e
 refine⟨fun x hx y hy=>?_,fun x hx e=>?_⟩
 ·exact Qz h.1.1.2 x hx y hy
 ·obtain⟨d,hd,rfl⟩:=List.mem_map.mp hx
  have:=List.all_eq_true.mp h.2 d hd
  rw[e]at this
  exact absurd this (by simp[QT])
def JaY:List D→Option D:=fun ds=>match ds with
 | [.lst g (d::es)]=>if JbY (d::es) then Jdv [.lst g (d::es)] else none
 | ds=>JcB ds
theorem od_minG {k:Nat} (hr:Room k X.A) (hcalm:X.calm=true):ODL X (.builtin "min") JaY:=by
 intro pins s σ H xs us Q I rv ⟨C,ds0,fx,dr,hC,hF,rs,e,kk⟩
 unfold JaY at e
 split at e
 ·rename_i g d es
  split at e
  case isFalse=>cases e
  rename_i hsh
  unfold Jdv at e
  split at e
  case h_2=>rename_i hh;exact absurd rfl (hh g d es)
  rename_i g' d' es' he
  cases he
  split at e
  case isFalse=>cases e
  rename_i hok
  cases e
  obtain⟨v,rfl,r⟩:=YR rs
  obtain⟨a,vs,f,rfl,q,rz⟩:=Jj hC hF r
  obtain⟨u,rfl,ru⟩:=vals1 rv
  cases (show u=Value.ref a from ru)
  obtain⟨its,rv2,hl,hz⟩:=I.list q
  unfold JbY at hsh
  split at hsh
  case h_2=>cases hsh
  rename_i ys hys
  have e1:=Jbn hys
  obtain⟨as,ra,_⟩:=readsAll_rep I hC hF hys rz rv2
  subst e1
  refine PySem.W.min_list_data (x:=pyO d) (xs:=es.map pyO) (as:=as) (I.ok.hd hcalm) hl.isList (by simpa using ra) (minOk_alike hok hys) (by
   have h1:=of_decide_eq_true hsh
   have:=hr.units
   simp only[List.map_cons]at h1
   omega) fun i v h' tk bs hv hrd hk=>?_
  obtain⟨w,h1,h2⟩:=best_of (f:=fun y a=>PySem.W.dataLt y a) I hC hF hok rz rv2 hk (by simpa using hv) hrd
  exact⟨w,H,I.kept hk,h1,kk.here h2⟩
 ·exact od_min2 hcalm pins s σ H xs us Q I rv ⟨C,ds0,fx,dr,hC,hF,rs,e,kk⟩
def Qh:List D→Option D
 | [.int i,.int j]=>if 0 < j∧j < 2 ^ 64 then some (.tup [.int (i / j),.int (i % j)]) else none
 | _=>none
theorem od_divmod:ODL X (.builtin "divmod") Qh:=by
 refine ODL.of call_divmodW fun xs H Q ⟨C,ds,fx,d,hC,hF,rs,e,k⟩=>?_
 unfold Qh at e
 split at e
 case h_2=>cases e
 rename_i i j
 split at e
 case isFalse=>cases e
 rename_i hj
 cases e
 obtain⟨v,w,f1,f2,rfl,r,r',_⟩:=Jcp rs
 obtain⟨rfl,_⟩:=r
 obtain⟨rfl,_⟩:=r'
 refine⟨i,j,rfl,?_,fun p hp=>?_⟩
 ·exact⟨hj.1,PyProof.noPylong_of_log2 (wide_div (i:=i) (b:=64) hj.1 (by omega) (by decide) (by decide)).2⟩
 ·exact k (.ref p) _ [] (Le.new hp) ⟨p,[.int (i / j),.int (i % j)],rfl,.inl (.inl upd_same),.int (i / j),[.int (i % j)],[],[],rfl,⟨rfl,rfl⟩,⟨.int (i % j),[],[],[],rfl,⟨rfl,rfl⟩,⟨rfl,rfl⟩,rfl⟩,rfl⟩ .nil fun _ z=>nomatch z
end
end VS
namespace VS
open PySem L2 SeqAt PySem.Spec PyProof.Rows
section
variable {X:Cx} {W:WX} {Ma Mb Mc V1 V2 V3 Rs R1 R2 R3:List Nat} {e f a b c tg o:Expr} {es:List Expr} {ca cb cc:CE} {cs:CA} {ct:CT} {pos p apos cpos:Pos} {cl:CL} {i:Nat} {st:Stmt}
variable {C:Ctx} {H H':Hp} {pins:List (Addr × Obj)} {σ:L2.St} {s:Shared}
def pInS:D→D→Option D
 | .str a,.str b=>(match a.cps.toList with
  | [c]=>some (.bl (decide (c∈b.cps.toList)))
  | _=>none)
 | _,_=>none
theorem od_inS:OD2 X (compareOp .In) pInS:=by
 refine OD2.of op_in_sign fun x y H Q ⟨C,dx,dy,fx,fy,d,hC,hF,r1,r2,e,k⟩=>?_
 unfold pInS at e
 split at e
 case h_2=>cases e
 rename_i a b
 split at e
 case h_2=>cases e
 rename_i cc hcc
 cases e
 obtain⟨rfl,_⟩:=r1
 obtain⟨rfl,_⟩:=r2
 refine⟨cc,b,?_,rfl,k.here ⟨rfl,rfl⟩⟩
 have:a.cps=#[cc]:=by
  apply Array.toList_inj.mp;simpa using hcc
 cases a
 simp at this
 subst this;rfl
def pInW:D→D→Option D:=orP2 pInS pIn
theorem Jc1 {k:Nat} (hr:Room k X.A):OD2 X (compareOp .In) pInW:=od_inS.or (od_in hr)
end
end VS
namespace PySem
open Sem (wp)
open AutoSeq1 (wpAny_loadPart')
theorem meets_enumerate_newT (l:Addr) (items:Array Value) (n:Nat) (dct:Option Addr) (sl:Array (Option Value)) :
  Meets (Builtin.«enumerate.__new__» ⟨[.type "enumerate", .ref l],[]⟩) (fun _ R s=>s.heap.get? l=some { cls:=.type "tuple", dict:=dct,data:=.seq items n,slots:=sl } ∧
   R (.ok (.ret (.ref (s.heap.push { cls:=.type "tuple_iterator", data:=.fields #[.ref l,.int 0 0] }).objs.size)))
    { s with heap:=(s.heap.push { cls:=.type "tuple_iterator", data:=.fields #[.ref l,.int 0 0] }).push { cls:=.type "enumerate", data:=.fields #[.none,.bool false,.ref s.heap.objs.size,rawInt 0,.none,.none] } }) :=
 .of_wp fun prog w A R s h=>by
  obtain⟨hp,g,d,tk,os⟩:=s;obtain⟨hl,h⟩:=h
  have hsub:=sub_enumerate
  have hL:Heap.IsTuple (Shared.heap ⟨hp,g,d,tk,os⟩) l items:=⟨_,hl,rfl,n,rfl⟩
  wp_walk using wpAny_loadPart' hl
  refine wpAny_stack_any fun st=>wpAny_pure ?_
  split
  ·rename_i c _ _ _ _ _
   cases (c == Value.type "enumerate")
   ·wp_walk using wpAny_loadPart' hl,wpAny_pyIter_tuple hL
    exact⟨_,rfl,h⟩
   ·wp_walk using wpAny_loadPart' hl,wpAny_pyIter_tuple hL
    exact⟨_,rfl,h⟩
  ·wp_walk using wpAny_loadPart' hl,wpAny_pyIter_tuple hL
   exact⟨_,rfl,h⟩
section
variable {prog:Program} {w:World} {A:Around} {E:Value→Shared→Prop} {s:Shared}
theorem call_enumerate_tuple {l:Addr} {items:Array Value} {Q:Value→Shared→Prop} (hL:s.heap.IsTuple l items)
  (h:∀h',IsEnum h' (s.heap.objs.size+1) s.heap.objs.size 0 .none→h'.IsTupleIter s.heap.objs.size l 0→h'.objs.size=s.heap.objs.size+2 →
   (∀b o,s.heap.get? b=some o→h'.get? b=some o)→Q (.ref (s.heap.objs.size+1)) { s with heap:=h' }) :
  wpAny (model prog w) A (call (.type "enumerate") [.ref l]) Q E s:=by
 obtain⟨⟨c,dct,dt,sl⟩,hl,hc,n,hd⟩:=hL
 replace hc:c=.type "tuple" := hc
 replace hd:dt=.seq items n:=hd
 subst hc hd
 refine callType_new F.called_enumerate (by decide) (F.typeCall_enumerate_1 _) (F.newCall_enumerate_1 _) (fun obj=>F.args_object_init_2 obj _) F.entry_enumerate_new
  (meets_enumerate_newT l items n dct sl) ⟨hl,?_⟩
 have hz:(s.heap.push { cls:=.type "tuple_iterator", data:=.fields #[.ref l,.int 0 0] }).objs.size=s.heap.objs.size+1:=Heap.size_push ..
 show _∧_
 rw[hz]
 have he:IsEnum ((s.heap.push { cls:=.type "tuple_iterator", data:=.fields #[.ref l,.int 0 0] }).push
   { cls:=.type "enumerate", data:=.fields #[.none,.bool false,.ref s.heap.objs.size,rawInt 0,.none,.none] }) (s.heap.objs.size+1) s.heap.objs.size 0 .none:=by
  have:=Heap.get?_push_size (s.heap.push { cls:=.type "tuple_iterator", data:=.fields #[.ref l,.int 0 0] })
   (o:={ cls:=.type "enumerate", data:=.fields #[.none,.bool false,.ref s.heap.objs.size,rawInt 0,.none,.none] }) rfl
  rw[hz]at this;exact this
 refine⟨⟨_,he,rfl⟩,h _ he ⟨_,Heap.get?_push_of_some _ (Heap.get?_push_size _ rfl),rfl,rfl⟩ (by rw[Heap.size_push,hz]) fun b o x=>Heap.get?_push_of_some _ (Heap.get?_push_of_some _ x)⟩
end
end PySem
namespace VS
open PySem L2 SeqAt PySem.Spec PyProof.Rows
def IteT (K:PySem.W.Frag) (a:Addr):It :=
 ⟨fun i H=>∃(xs:List V) (x:V),SqT K H a xs∧xs[i]?=some x,fun i H v H'=>∃T x,v=.ref T∧H T=none∧H'=upd H T (.tup [.int (i:Nat),x])∧∀xs,SqT K H a xs→xs[i]?=some x,fun i H=>∃xs:List V,SqT K H a xs∧xs.length≤i⟩
theorem turn_enumT {P:Program} {w:World} {K:PySem.W.Frag} {elts:List Expr} {kk:Nat} {tpos:Pos} (a e it:Addr) :
  Turn P w K (.Tuple elts kk tpos) (IteT K a) [e,it] e (fun i h=>(∃old,IsEnum h e it ((i:Nat):Int) old)∧h.IsTupleIter it a i∧e≠it) where
 mem:=by simp
 obj:=fun i h st b hb=>by
  obtain⟨⟨old,he⟩,⟨o,ho,hc,hd⟩,_⟩:=st
  have e':b=e∨b=it:=by simpa using hb
  rcases e' with z | z
  ·rw[z];exact⟨_,he,fun v q=>nomatch q⟩
  ·rw[z];exact⟨o,ho,fun v q=>by rw[hd]at q;cases q⟩
 keep:=fun i h h' st k=>let ⟨⟨old,he⟩,hi,hne⟩:=st;⟨⟨old,k e (by simp) _ he⟩,hi.at fun o q=>k it (by simp) o q,hne⟩
 item:=by
  intro X hP hw hK hc i pins s σ H E I hf st hg
  subst hP hw hK
  obtain⟨⟨old,he⟩,hit,hne⟩:=st
  obtain⟨xs,x,hq,hx⟩:=hg
  obtain⟨its,rv,p,hz⟩:=I.tuple hq
  obtain⟨u,hu,ru⟩:=rv.get hx
  have hel:e < s.heap.objs.size:=Heap.lt_size he
  have hil:it < s.heap.objs.size:=by obtain⟨_,q,_⟩:=hit;exact Heap.lt_size q
  have pT:s.heap.IsTuple a its.toArray:=p
  have hai:a≠it:=by
   rintro rfl
   obtain⟨o1,q1,c1,_⟩:=hit
   obtain⟨o2,q2,c2,_⟩:=pT
   rw[q1]at q2;cases q2;rw[c1]at c2;exact absurd c2 (by decide)
  have hae:a≠e:=by
   rintro rfl
   obtain⟨o2,q2,c2,_⟩:=pT
   rw[he]at q2;cases q2;exact absurd (show Value.type "enumerate" = Value.type "tuple" from c2) (by decide)
  have hlt:i < its.toArray.size:=by
   have:=(List.getElem?_eq_some_iff.mp hu).1
   simpa using this
  have D:=PySem.Draws.tuple (prog:=X.prog) (w:=X.w) (A:=X.A.in1) (I.ok.hd hc) it a hai its.toArray
  refine wpAny_pyNext_enum_itemD D he ⟨hit,pT⟩ hlt hne (by simp[hne,Ne.symm hae]) fun x' h' tk hP ho hst hT hsz hk=>?_
  have hxu:x'=u:=by
   have:its.toArray[i]?=some x':=hP
   rw[List.getElem?_toArray,hu]at this
   exact(Option.some.inj this).symm
  subst hxu
  refine⟨_,rfl,wpAny_letOwnedTupleGo_enum (s:={ s with heap:=h',toks:=tk+1 }) ho fun h'' he' sb=>?_⟩
  have hT2:h''.get? s.heap.objs.size=some { cls:=.type "tuple", data:=.seq #[.int i tk,x'] }:=(sb.2 _ (Nat.ne_of_gt hel)).trans hT
  have new:ObjOk X.prog X.w (upd H s.heap.objs.size (.tup [.int (i:Nat),x])) h'' s.heap.objs.size (.tup [.int (i:Nat),x]) :=
   ⟨by show 2≤sizeLine;decide,[.int i tk,x'],.cons ⟨_,rfl⟩ (.cons ru .nil),⟨_,hT2,rfl,_,rfl⟩⟩
  have I1:Inv X pins σ (upd H s.heap.objs.size (.tup [.int (i:Nat),x])) { s with heap:=h'',toks:=tk+1 } :=
   I.turnedNew (ch:=[e,it]) (fun b ob hb q=>(sb.2 b (fun z=>hb (by simp[z]))).trans (hk b ob (fun z=>hb (by simp[z])) (fun z=>hb (by simp[z])) q)) hf (Nat.le_refl _) new
  refine⟨.ref s.heap.objs.size,_,I1,rfl,⟨_,x,rfl,I.hok.fresh (Nat.le_refl _),rfl,fun ys hy=>by rw[I.tuple_inj hy hq];exact hx⟩,⟨⟨x',?_⟩,hst.1.at fun o q=>(sb.2 it (Ne.symm hne)).trans q,hne⟩,fun b hb=>?_⟩
  ·have e1:((i+1:Nat):Int)=(i:Int)+1:=by omega
   rw[e1];exact he'
  ·have hb':b < s.heap.objs.size:=by
    have e':b=e∨b=it:=by simpa using hb
    rcases e' with z | z
    ·rw[z];exact hel
    ·rw[z];exact hil
   rw[upd_ne (Nat.ne_of_lt hb')]
   exact(hf b hb).1
 done:=by
  intro X hP hw hK hc i pins s σ H E I hf st hg
  subst hP hw hK
  obtain⟨⟨old,he⟩,hit,hne⟩:=st
  obtain⟨xs,hq,hx⟩:=hg
  obtain⟨its,rv,p,hz⟩:=I.tuple hq
  obtain⟨f0,f1,f2,f3,f4,f5⟩:=hf it (by simp)
  have pT:s.heap.IsTuple a its.toArray:=p
  have hl:=rv.length
  have hT:s.TypeIs (.ref e) "enumerate" := ⟨_,he,rfl⟩
  unfold pyNext
  refine wpAny_bind (wpAny_attempt (wpAny_callSpecial?_slot (name:=Str.ofString "__next__") hT F.slot_enumerate_next
   (wpAny_call_entry F.slot_enumerate_next hT F.entry_enumerate_next ?_ (F.args_enumerate_next_1 _))))
  show wpAny _ _ (field (.ref e) 2 >>= _) _ _ _
  refine wpAny_bind (wpAny_field he rfl (x:=.ref it) rfl ?_)
  refine wpAny_bind (PySem.wpAny_nextOf_tuple_end (I.ok.hd hc) hit pT (by simp;omega) fun h' x he' hx'=>?_)
  obtain⟨o,ho,hcc⟩:=hx'
  refine wpAny_bind (wpAny_isInstance (T := "StopIteration") (b:=true) ⟨o,ho,hcc⟩ isSubtype_stop ?_)
  exact wpAny_pure ⟨rfl,I.turned (t':=s.toks) (fun b o hb q=>he' b o hb q) f0 f1 f3 f4 f5⟩
 self:=fun A i s Q E st h=>let ⟨⟨_,he⟩,_⟩:=st;wpAny_pyIter_enum he h
def Jc8 (K:PySem.W.Frag) (ta:TA):TI:=fun σ H R=>ta σ H fun vs H1=>∃a xs,vs=[.ref a]∧SqT K H1 a xs∧R (IteT K a) H1
theorem pi_enumT {X:Cx} {e:Expr} {ta:TA} {p pos tpos:Pos} {elts:List Expr} {kk:Nat} (hg:Gl X "enumerate") (hm:X.mg "enumerate" = none) (ha:PA X [e] ta) (hs:starEach [e] X.env=[(false,eval e X.env)]:=by rfl) :
  PI X (.Tuple elts kk tpos) (.Call (.Name "enumerate" p) [e] [] pos) (Jc8 X.K ta):=by
 refine⟨fun pins s σ H R I h=>?_⟩
 refine Call_ (ld_blt I hg hm boot_enumerate (PyProof.Rows.callWith_type1 (thn (ha.run pos pins s σ H _ I h) fun us s1 ⟨vs,H1,I1,r1,q1⟩=>?_) hs rfl))
 obtain⟨a,xs,ex,hq,q⟩:=q1
 subst ex
 cases r1 with
 | cons r rr =>
  cases rr
  cases r
  obtain⟨its,rv,p',hz⟩:=I1.tuple hq
  refine PySem.call_enumerate_tuple (show s1.heap.IsTuple a its.toArray from p') fun h' he hit hsz hk=>wpAny_pyIter_enum he ?_
  have I2:Inv X pins σ H1 { s1 with heap:=h' }:=I1.kept (t':=s1.toks) hk
  refine⟨s1.heap.objs.size+1,[s1.heap.objs.size+1,s1.heap.objs.size],_,_,H1,rfl,I2,turn_enumT a (s1.heap.objs.size+1) s1.heap.objs.size,⟨⟨.none,he⟩,hit,Nat.succ_ne_self _⟩,fun b hb=>?_,q⟩
  have e':b=s1.heap.objs.size+1∨b=s1.heap.objs.size:=by simpa using hb
  have hle:s1.heap.objs.size≤b:=by
   rcases e' with z | z
   ·rw[z];exact Nat.le_add_right _ _
   ·rw[z];exact Nat.le_refl _
  exact I1.fpOk hle (I1.hok.fresh hle)
def Jaq (c:CE):CA:=fun env=>(c env).bind fun d env=>match d with
 | .lst _ ds=>if imms ds then .ok (numD 0 ds) env else .err
 | .tup ds=>if imms ds then .ok (numD 0 ds) env else .err
 | _=>.err
section
variable {X:Cx} {W:WX} {M Rs:List Nat} {e tg:Expr} {ca:CE} {pos p:Pos}
theorem walk_enumT {K:PySem.W.Frag} {a:Addr} {xs:List V}:Walk (IteT K a) xs.length (fun H=>SqT K H a xs) (YPair (fun i=>some (.int (i:Nat))) (fun i=>xs[i]?)):=by
 refine⟨fun i _ hi q=>⟨xs,xs[i],q,by simp[hi]⟩,fun _ q=>⟨xs,q,Nat.le_refl _⟩,fun i H v H' _ q y=>?_⟩
 obtain⟨T,x,h1,h2,h3,h4⟩:=y
 exact⟨T,.int (i:Nat),x,h1,h2,h3,rfl,h4 xs q⟩
def Jbi (c:CE):CA:=fun env=>(c env).bind fun d env=>match d with
 | .tup ds=>if imms ds then .ok (numD 0 ds) env else .err
 | _=>.err
theorem si_enumT {elts:List Expr} {kk:Nat} {tpos p2:Pos} (hg:Gl X "enumerate") (hm:X.mg "enumerate" = none) (h:SB X W M Rs e ca) (hs:starEach [e] X.env=[(false,eval e X.env)]:=by rfl):SI X W M Rs (.Tuple elts kk tpos) (.Call (.Name "enumerate" p2) [e] [] pos) (Jbi ca):=by
 obtain⟨t,p,q⟩:=h.go
 refine⟨Jc8 X.K (tCons t tNil),pi_enumT hg hm (pa_cons p pa_nil hs) hs,fun C fs env σ H tf Q hC G po=>?_⟩
 show t σ H fun x H1=>_
 refine q C fs env σ H tf _ hC G ?_
 unfold Jbi at po
 cases e1:ca env with
 | err=>rw[e1]at po;exact po
 | ex x env'=>rw[e1]at po;exact po
 | ok d env1 =>
  rw[e1]at po
  intro v fs1 H1 fp own G1 s1 r1 i1
  cases d with
  | tup ds =>
   have po':QP W C M Rs tf fs env σ H Q (if imms ds then .ok (numD 0 ds) env1 else .err):=po
   by_cases hi:imms ds=true
   ·rw[if_pos hi]at po'
    obtain⟨a,vs,rfl,sq,rs,kp⟩:=src_tup hC r1 hi
    refine⟨a,vs,rfl,sq,po' _ fs1 H1 fp own G1 s1 ⟨?_⟩ i1⟩
    rw[Jaw,Je rs]
    refine Walk.mono (walk_enumT (K:=X.K) (a:=a) (xs:=vs)) (fun H2 h2=>(kp H2 h2).1) fun i H2 x H3 hi2 h2 ⟨T,y,z,e1,e2,e3,e4,e5⟩=>?_
    subst e1 e3
    cases e4
    obtain⟨d,h1,h3⟩:=YD (kp H2 h2).2 hi e5
    have le:=Le.new (o:=.tup [.int (i:Nat),z]) e2
    refine⟨le,.tup [.int (i:Nat),d],by rw[Jar,h1];simp,T,_,rfl,SqT.of upd_same,.int (i:Nat),[z],[],[],rfl,⟨rfl,rfl⟩,⟨z,[],[],[],rfl,h3.le le,⟨rfl,rfl⟩,rfl⟩,rfl⟩
   ·rw[if_neg hi]at po';exact po'.elim
  | _=>exact po.elim
theorem JbJ {elts:List Expr} {kk:Nat} {tpos p2:Pos} (hg:Gl X "enumerate") (hm:X.mg "enumerate" = none) (h:SB X W M Rs e ca) (hs:starEach [e] X.env=[(false,eval e X.env)]:=by rfl):SI X W M Rs (.Tuple elts kk tpos) (.Call (.Name "enumerate" p2) [e] [] pos) (Jaq ca):=by
 obtain⟨t,p,q⟩:=(si_enum (elts:=elts) (kk:=kk) (tpos:=tpos) (p2:=p2) (pos:=pos) hg hm h hs).go
 obtain⟨t2,p2,q2⟩:=(si_enumT (elts:=elts) (kk:=kk) (tpos:=tpos) (p2:=p2) (pos:=pos) hg hm h hs).go
 refine⟨_,Jdt p p2,fun C fs env σ H tf Q hC G po=>?_⟩
 unfold Jaq at po
 cases e1:ca env with
 | err=>rw[e1]at po;exact po.elim
 | ex x env' =>
  refine .inl (q C fs env σ H tf Q hC G ?_)
  unfold Jad
  rw[e1]at po ⊢
  exact po
 | ok d env1 =>
  rw[e1]at po
  cases d with
  | lst g ds =>
   refine .inl (q C fs env σ H tf Q hC G ?_)
   unfold Jad
   rw[e1]
   exact po
  | tup ds =>
   refine .inr (q2 C fs env σ H tf Q hC G ?_)
   unfold Jbi
   rw[e1]
   exact po
  | _=>exact po.elim
@[simp] theorem e_enumG {env:Env}:Jaq ca env=(ca env).bind fun d env=>match d with
 | .lst _ ds=>if imms ds then .ok (numD 0 ds) env else .err
 | .tup ds=>if imms ds then .ok (numD 0 ds) env else .err
 | _=>.err:=(rfl)
end
end VS
namespace VS
open PySem L2 SeqAt PySem.Spec PyProof.Rows
def okN (js:List Nat) (env:Env):Bool:=js.all fun j=>match env[j]? with
 | some (some d)=>d.nol
 | _=>true
section
variable {X:Cx} {W:WX} {M Vs:List Nat} {st:Stmt} {c:CS} {C:Ctx} {fs:FPs} {env:Env} {σ:L2.St} {H:Hp} {tf:List Addr} {i:Nat} {d:D}
def ctxL (C:Ctx) (fs:FPs) (i:Nat) (tf:List Addr) (H:Hp):Ctx:=⟨C.K,C.mg,H,(fs.set i []).flatten++tf,C.Lk⟩
theorem Jcj (G:Good C fs env σ H tf) (e:env[i]?=some (some d)):Enter C (ctxL C fs i tf H) H∧(∀a∈fs.getD i [],a∉(ctxL C fs i tf H).A)∧Good (ctxL C fs i tf H) (fs.set i []) (env.set i (some d.lend)) σ H tf:=by
 obtain⟨v,ev,r⟩:=G.rep i d e
 have hi:i < fs.length:=by
  have:=(List.getElem?_eq_some_iff.mp e).1
  have h1:=G.le;have h2:=G.lf;omega
 have p2:=Yy fs hi
 have nd:(fs.getD i []++((fs.set i []).flatten++tf)).Nodup:=by
  rw[←List.append_assoc];exact(p2.append_right tf).nodup_iff.mp G.nd
 have sub:∀a∈(fs.set i []).flatten++tf,a∈fs.flatten++tf:=fun a ha=>by
  rcases List.mem_append.mp ha with z | z
  ·exact List.mem_append_left _ (p2.mem_iff.mpr (List.mem_append_right _ z))
  ·exact List.mem_append_right _ z
 have E:Enter C (ctxL C fs i tf H) H:=⟨rfl,rfl,rfl,rfl,G.fr,fun x hx=>⟨G.own x (sub x hx),G.trk x (sub x hx)⟩⟩
 have hd:∀a∈fs.getD i [],a∉(ctxL C fs i tf H).A:=fun a ha hm=>(List.nodup_append.mp nd).2.2 a ha a hm rfl
 refine⟨E,hd,by simpa using G.le,by simpa using G.lf,fun j dj ej=>?_,(List.nodup_append.mp nd).2.1,fun a ha=>.inl ha,fun a ha=>G.trk a (sub a ha),fun a o ea na=>.inl ea,G.lk⟩
 rw[List.getElem?_set]at ej
 by_cases hj:i=j
 ·subst hj
  have hl:i < env.length:=(List.getElem?_eq_some_iff.mp e).1
  simp[hl]at ej
  subst ej
  refine⟨v,ev,?_⟩
  rw[JE _ _ _ _ hi,if_pos rfl]
  exact r.lend E hd
 ·rw[if_neg hj]at ej
  obtain⟨w,ew,rw'⟩:=G.rep j dj ej
  refine⟨w,ew,?_⟩
  rw[JE _ _ _ _ hi,if_neg (fun z=>hj z.symm)]
  exact rw'.enter E
theorem lend_out {fs':FPs} {env':Env} {σ':L2.St} {H':Hp} {fp:List Addr} {js:List Nat} (G:Good C fs env σ H tf) (e:env[i]?=some (some d)) (hM:i∉M) (hV:i∉Vs) (hj:∀j,j∈M∨j∈Vs→j∈js)
  (G':Good (ctxL C fs i tf H) fs' env' σ' H' (fp++tf)) (s:StepS M Vs tf (fs.set i []) (env.set i (some d.lend)) σ H fs' env' σ' H') (ok:okN js env'=true) :
  Good C (fs'.set i (fs.getD i [])) (env'.set i (some d)) σ' H' (fp++tf)∧StepS M Vs tf fs env σ H (fs'.set i (fs.getD i [])) (env'.set i (some d)) σ' H':=by
 obtain⟨E,hd,G1⟩:=Jcj G e
 obtain⟨v,ev,r⟩:=G.rep i d e
 have hie:i < env.length:=(List.getElem?_eq_some_iff.mp e).1
 have hi:i < fs.length:=by have h1:=G.le;have h2:=G.lf;omega
 have hev:i < σ.length:=by have h1:=G.le;omega
 have hv':=s.v i hV
 have hi':i < σ'.length:=by
  rw[ev]at hv';exact(List.getElem?_eq_some_iff.mp hv').1
 have hif:i < fs'.length:=by have:=G'.lf;omega
 have fe:fs'.getD i []=[]:=by
  have:=s.s.f i hM
  rw[JE _ _ _ _ hi,if_pos rfl]at this;exact this
 have fset:fs'.set i []=fs':=by
  rw[List.getD_eq_getElem?_getD,List.getElem?_eq_getElem hif]at fe
  simp at fe
  rw[←fe];simp
 have p1:=Qa fs' hif (fs.getD i [])
 rw[fset]at p1
 have p2:=Yy fs hi
 have keep:∀a∈fs.getD i [],H' a=H a:=fun a ha=>by
  obtain⟨o,ea,mu⟩:=r.trk a ha
  rcases G'.fr a o ea (hd a ha) with q | ⟨q1,_,ob,q⟩
  ·rw[q,ea]
  ·obtain⟨ob2,u,z⟩:=G.lk a q1
   rw[ea]at z;cases z;exact mu.elim
 have apart:∀a∈fs.getD i [],a∉fs'.flatten++(fp++tf):=fun a ha hm=>by
  obtain⟨o,ea,mu⟩:=r.trk a ha
  rcases G'.own a hm with z | z
  ·exact hd a ha z
  ·have z':H a=none:=z
   rw[ea]at z';cases z'
 have pp:((fs'.set i (fs.getD i [])).flatten++(fp++tf)).Perm (fs.getD i []++(fs'.flatten++(fp++tf))):=by
  have:=p1.append_right (fp++tf);rwa[List.append_assoc]at this
 have frC:Fr C H':=fun a o ea na=>by
  rcases G.fr a o ea na with q | ⟨q1,q2,ob,q⟩
  ·by_cases hA:a∈(ctxL C fs i tf H).A
   ·rcases (E.a a hA).1 with z | z
    ·exact absurd z na
    ·rw[ea]at z;cases z
   ·rcases G'.fr a o q hA with z | ⟨z1,z2,z3⟩
    ·exact .inl z
    ·exact .inr ⟨z1,z2,z3⟩
  ·exact .inr ⟨q1,q2,ob,s.s.m.z _ _ _ q⟩
 have ownC:∀a,(a∈(ctxL C fs i tf H).A∨H a=none)→a∈C.A∨C.H0 a=none:=fun a ha=>by
  rcases ha with z | z
  ·exact(E.a a z).1
  ·exact G.fr.fresh z
 refine⟨⟨by have:=G'.le;simpa using this,by have:=G'.lf;simpa using this,fun j dj ej=>?_,pp.nodup_iff.mpr (List.nodup_append.mpr ⟨?_,G'.nd,fun a ha b hb e=>apart a ha (e ▸ hb)⟩),fun a ha=>?_,fun a ha=>?_,frC,G'.lk⟩,⟨⟨s.s.t,fun j hj'=>?_,fun j hj'=>?_,fun j hj' a ha=>?_,s.s.m⟩,s.v⟩⟩
 ·rw[List.getElem?_set]at ej
  by_cases hij:i=j
  ·subst hij
   have hl:i < env'.length:=by have:=G'.le;omega
   simp[hl]at ej
   subst ej
   refine⟨v,by rw[hv'];exact ev,?_⟩
   rw[JE _ _ _ _ hif,if_pos rfl]
   exact r.keep keep s.s.m
  ·rw[if_neg hij]at ej
   rw[JE _ _ _ _ hif,if_neg (fun z=>hij z.symm)]
   by_cases hjs:j∈js
   ·obtain⟨w,ew,rw'⟩:=G'.rep j dj ej
    have hn:=List.all_eq_true.mp ok j hjs
    rw[ej]at hn
    exact⟨w,ew,Rep.leave (C:=C) (C':=ctxL C fs i tf H) rfl rfl rfl rw' hn⟩
   ·have hjM:j∉M:=fun z=>hjs (hj j (.inl z))
    have hjV:j∉Vs:=fun z=>hjs (hj j (.inr z))
    have e1:=s.s.e j hjM
    rw[ej,List.getElem?_set,if_neg hij]at e1
    obtain⟨w,ew,rw'⟩:=G.rep j dj e1.symm
    have e2:=s.s.f j hjM
    rw[JE _ _ _ _ hi,if_neg (fun z=>hij z.symm)]at e2
    refine⟨w,by rw[s.v j hjV];exact ew,?_⟩
    rw[e2]
    refine rw'.keep (fun a ha=>?_) s.s.m
    exact s.s.h j hjM a (by rw[JE _ _ _ _ hi,if_neg (fun z=>hij z.symm)];exact ha)
 ·have:=(p2.append_right tf).nodup_iff.mp G.nd
  rw[List.append_assoc]at this
  exact(List.nodup_append.mp this).1
 ·rcases List.mem_append.mp (pp.mem_iff.mp ha) with z | z
  ·exact G.own a (List.mem_append_left _ (Yo z))
  ·exact ownC a (G'.own a z)
 ·rcases List.mem_append.mp (pp.mem_iff.mp ha) with z | z
  ·rw[keep a z];exact r.trk a z
  ·exact G'.trk a z
 ·rw[JE _ _ _ _ hif]
  by_cases hij:j=i
  ·subst hij;simp
  ·rw[if_neg hij]
   have:=s.s.f j hj'
   rw[JE _ _ _ _ hi,if_neg hij]at this;exact this
 ·rw[List.getElem?_set]
  by_cases hij:i=j
  ·subst hij
   have hl:i < env'.length:=by have:=G'.le;omega
   simp[hl,e]
  ·rw[if_neg hij]
   have:=s.s.e j hj'
   rw[List.getElem?_set,if_neg hij]at this;exact this
 ·by_cases hij:j=i
  ·subst hij;exact keep a ha
  ·exact s.s.h j hj' a (by rw[JE _ _ _ _ hi,if_neg hij];exact ha)
end
end VS
namespace VS
open PySem L2 SeqAt PySem.Spec PyProof.Rows
section
variable {X:Cx} {W:WX} {M1 M2 R1 R2:List Nat} {o e:Expr} {ca cb:CE} {pos apos:Pos} {T id:String} {name:Str} {r:V→List V→Hp→VK→Prop} {kd:D→Bool} {p:D→D→Option D}
structure LkOk (X:Cx) (T:String) (r:V→List V→Hp→VK→Prop) (kd:D→Bool) (p:D→D→Option D):Prop where
 run:∀C H x y dx dy fx fy d Q,C.At X→Fr C H→Rep C H dx x fx→Rep C H dy y fy→p dx dy=some d→UM C H d Q→r x [y] H Q
 ty:∀C H v d fp,C.At X→Fr C H→Rep C H d v fp→kd d=true→tyV X.K T v H
variable {C:Ctx} {H:Hp}
end
end VS
namespace VS
open PySem L2 SeqAt PySem.Spec PyProof.Rows
def JdG:V→List V→Hp→VK→Prop:=fun x xs H Q=>∃(d o:Addr) (kvs more:List (Key × V)),x=V.ref d∧xs=[V.ref o]∧H d=some (.dK kvs)∧Rd H o (.dK more)∧d≠o∧kvs.length+more.length≤sizeLine∧Q .non (upd H d (.dK (mergeK kvs more)))
section
variable {X:Cx}
theorem mt_updD:MtR X "dict.update" JdG:=by
 intro pins s σ H x xs v us Q I rx rxs h
 obtain⟨d,o,kvs,more,rfl,rfl,hd,ho,hne,hz,q⟩:=h
 obtain rfl:v=Value.ref d:=rx
 obtain⟨u,rfl,ru⟩:=vals1 rxs
 obtain rfl:u=Value.ref o:=ru
 obtain⟨z1,lo1,vs,rel,dd⟩:=dk_of I.hok hd
 obtain⟨z2,lo2,ms,rel2,dd2⟩:=dk_rd I.hok ho
 have l1:vs.length=kvs.length:=(KV.length rel).symm
 have l2:ms.length=more.length:=(KV.length rel2).symm
 refine call_meetsIn F.slot_dict_update dd.typeIs F.entry_dict_update (F.args_dict_update_2 _ _) (meets_dict_update (mixKind X.prog X.w) d o hne lo2) ⟨vs,ms,dd,dd2,by omega,fun h' hd' ho' hs'=>?_⟩
 have rm:=KV.merge rel2 rel
 have hlen:(mergeK kvs more).length≤sizeLine:=by
  have:=merged_length_le vs ms
  rw[KV.length rm];omega
 refine⟨.non,upd H d (.dK (mergeK kvs more)),I.write (t':=s.toks) ?_ (.inl rfl) (fun b ob hb e=>(hs'.2 b hb).trans e) ?_ (show ObjOk X.prog X.w _ _ _ (.dK (mergeK kvs more)) from ⟨hlen,lo1,_,rm,hd'⟩),rfl,q⟩
 ·rw[hd];trivial
 ·obtain⟨ep,dat⟩:=hd'.dictAt
  obtain⟨ob,es,hob,_⟩:=dat
  exact⟨ob,hob⟩
def kdM:D→Bool
 | .dct .m _ _=>true
 | _=>false
def QR:D→List D→Option (D × D)
 | .dct .m ks ds,[.dct g ks' ds']=>if (g == .m || decide (ks≠ks')) && imms ds && imms ds' && decide (ks'.length=ds'.length) && decide (ks.length+ks'.length≤sizeLine) then
   some (.dct .m ((ks'.zip ds').foldl (fun acc p=>putP acc p.1 p.2) (ks,ds)).1 ((ks'.zip ds').foldl (fun acc p=>putP acc p.1 p.2) (ks,ds)).2,.non) else none
 | _,_=>none
theorem Jcz:∀C H v d fp,C.At X→Fr C H→Rep C H d v fp→kdM d=true→tyV X.K "dict" v H:=by
 intro C H v d fp hC hF r h
 cases d with
 | dct g ks ds =>
  cases g with
  | m =>
   obtain⟨a,kvs,f1,f2,rfl,n,_⟩:=r
   exact .inr (.inr (.inl ⟨rfl,.inl ⟨kvs,n.1⟩⟩))
  | _=>cases h
 | _=>cases h
theorem JbC {α β:Type}:∀{xs:List α} {ys:List β},xs.length=ys.length→(xs.zip ys).map (·.1)=xs
 | [],[],_=>rfl
 | x::xs,y::ys,h=>by simp[JbC (xs:=xs) (ys:=ys) (by simpa using h)]
theorem Jbx {α β:Type}:∀{xs:List α} {ys:List β},xs.length=ys.length→(xs.zip ys).map (·.2)=ys
 | [],[],_=>rfl
 | x::xs,y::ys,h=>by simp[Jbx (xs:=xs) (ys:=ys) (by simpa using h)]
theorem mu_updD:MuOk X "dict" JdG kdM QR:=by
 refine⟨?_,Jcz⟩
 intro C H v d fp vs ds fpa Q d' res hC hF r ra nd h k
 unfold QR at h
 split at h
 case h_2=>cases h
 rename_i ks ds0 g ks' ds'
 split at h
 case isFalse=>cases h
 rename_i hc
 simp only[Bool.and_eq_true,decide_eq_true_eq]at hc
 obtain⟨⟨⟨⟨hg,hi⟩,hi'⟩,hl⟩,hz⟩:=hc
 cases h
 obtain⟨a,kvs,f1,f2,rfl,n,⟨hks,hn⟩,rz,_,rfl⟩:=r
 obtain⟨hH,rfl⟩:=n
 have z:=rz.imm hi
 subst z
 obtain⟨w,rfl,rx⟩:=YR ra
 obtain⟨o,more,g1,g2,rfl,n2,⟨hks2,hn2⟩,rz2,_,rfl⟩:=rx
 have z2:=rz2.imm hi'
 subst z2
 have ro:Rd H o (.dK more):=(n2.rd hF).rd fun xs=>by intro z;cases z
 have hne:a≠o:=by
  rintro rfl
  rw[Bool.or_eq_true,decide_eq_true_eq]at hg
  rcases hg with hg | hg
  ·have:g=.m:=by cases g<;>first | rfl | cases hg
   subst this
   obtain⟨_,rfl⟩:=n2
   simp at nd
  ·rcases ro with q | ⟨ob,q⟩
   ·rw[hH]at q;cases q;exact hg (hks.symm.trans hks2)
   ·rw[hH]at q;cases q
 have m:=Mono.upd (o:=.dK (mergeK kvs more)) hH trivial
 have hl2:(ks'.zip ds').map (·.1)=ks':=JbC hl
 have hl3:(ks'.zip ds').map (·.2)=ds':=Jbx hl
 obtain⟨q1,q2,q3⟩:=Uj (C:=C) (H:=H) (ps:=ks'.zip ds') (kvs:=more) (acc:=kvs) (kd:=(ks,ds0)) (by rw[hks2,hl2]) (by rw[hl3];exact rz2) hks hn rz
 refine⟨a,o,kvs,more,rfl,rfl,hH,ro,hne,?_,?_⟩
 ·have e1:=congrArg List.length hks
  have e2:=congrArg List.length hks2
  simp at e1 e2;omega
 ·refine k _ .non [a] [] m (fun b ob hb hnb=>?_) ⟨a,_,[a],[],rfl,⟨upd_same,rfl⟩,⟨q1,q2⟩,q3.keep (fun b hb=>nomatch hb) m,.inl rfl,rfl⟩ ⟨rfl,rfl⟩ (by simp) (fun b hb=>?_)
  ·rw[upd_ne (fun z=>hnb (by simp[z]))];exact hb
  ·simp at hb;subst hb;left;simp
variable {W:WX} {Ma Mb:List Nat} {o e:Expr} {es:List Expr} {cl:CL} {cs:CA} {i:Nat} {apos cpos:Pos}
theorem so_updD (ho:SL X W i Ma o cl) (ha:SAO X W Mb (e::es) cs)
  (hi:djB [i] Mb=true) (hbase:attributeBase o "update" X.env (eval o X.env)=eval o X.env)
  (hfew:((backTo cpos (starEach (e::es) X.env)).all (fun x=>!x.1) && (backToKw cpos (keywordEach [] X.env)).all (fun x=>x.1.isSome)
   && decide ((e::es).length+([]:List Keyword).length+(if ([]:List Keyword).isEmpty then 0 else 1) < 30))=true)
  (hline:(apos.endLine == cpos.line)=true) (hs:starEach (e::es) X.env=(false,eval e X.env)::starEach es X.env) (hplain:(backTo cpos (starEach es X.env)).any (·.1)=false) :
  SO X W (Ma++(Mb++[i])) (.Call (.Attribute o "update" apos) (e::es) [] cpos) (cMut i kdM QR cl cs) :=
 Jca mu_updD PySem.F.plainAttrs_dict PySem.F.slot_dict_update PySem.F.type_dict_update mt_updD ho ha hi hbase hfew hline hs hplain
@[simp] theorem e_kdM (ks:List Key) (ds:List D):kdM (.dct .m ks ds)=true:=(rfl)
end
end VS
namespace VS
open PySem L2 SeqAt PySem.Spec PyProof.Rows
mutual
def D.nok:D→Bool
 | .tup ds=>noks ds
 | .lst g ds=>(g != .k) && noks ds
 | .dct g _ ds=>(g != .k) && noks ds
 | .obj g _ _ ds=>(g != .k) && noks ds
 | .exc _ _ ds=>noks ds
 | _=>true
def noks:List D→Bool
 | []=>true
 | d::ds=>d.nok && noks ds
end
def okK (js:List Nat) (env:Env):Bool:=js.all fun j=>match env[j]? with
 | some (some d)=>d.nok
 | _=>true
def Zk (f:Str):List Str→List D→Option (List D)
 | n::ns,d::ds=>if n=f then (match d with
   | .dct .l ks es=>some (.dct .k ks es::ds)
   | _=>none) else (Zk f ns ds).map (d::·)
 | _,_=>none
def JaM:Option (Str × Str)→D→Option D
 | none,.dct .l ks ds=>some (.dct .k ks ds)
 | some (c,f),.obj .l c' ns ds=>if c=c' then (Zk f ns ds).map (.obj .l c' ns ·) else none
 | _,_=>none
def ctxK (C:Ctx) (a:Addr):Ctx:=⟨C.K,C.mg,C.H0,C.A,a::C.Lk⟩
section
variable {C C':Ctx} {H H':Hp}
theorem QU (tr:∀d v,Rep C H d v []→Rep C' H' d v []):∀{ds vs},Reps C H ds vs []→Reps C' H' ds vs []
 | [],vs,h=>h
 | d::ds,vs,⟨v,vs',f1,f2,e,r,rs,e2⟩=>by
  have h1:f1=[]:=(List.append_eq_nil_iff.mp e2.symm).1
  have h2:f2=[]:=(List.append_eq_nil_iff.mp e2.symm).2
  subst h1 h2
  exact⟨v,vs',[],[],e,tr _ _ r,QU tr rs,rfl⟩
theorem JaR {f:Str}:∀{ns:List Str} {ds ds':List D} {vs:List V},Zk f ns ds=some ds'→Reps C H ds vs []→∃a kvs,(Rd C.H0 a (.dK kvs)∧a∉C.A) ∧
  ∀C' H',(∀d v,Rep C H d v []→Rep C' H' d v [])→Nd C' H' .k a (.dK kvs) []→Reps C' H' ds' vs []
 | [],ds,ds',vs,h,_=>by simp[Zk]at h
 | n::ns,[],ds',vs,h,_=>by simp[Zk]at h
 | n::ns,d::ds,ds',vs,h,⟨v,vs',f1,f2,e,r,rs,e2⟩=>by
  have h1:f1=[]:=(List.append_eq_nil_iff.mp e2.symm).1
  have h2:f2=[]:=(List.append_eq_nil_iff.mp e2.symm).2
  subst h1 h2
  unfold Zk at h
  split at h
  ·split at h
   ·rename_i ks es
    cases h
    obtain⟨a,kvs,g1,g2,ev,nd,q,r2,z,e3⟩:=r
    have h1:g1=[]:=(List.append_eq_nil_iff.mp e3.symm).1
    have h2:g2=[]:=(List.append_eq_nil_iff.mp e3.symm).2
    subst h1 h2
    obtain⟨⟨h0,na⟩ | ⟨xs,q1,_⟩,_⟩:=nd
    ·exact⟨a,kvs,⟨h0,na⟩,fun C' H' tr nk=>⟨v,vs',[],[],e,⟨a,kvs,[],[],ev,nk,q,QU tr r2,.inr rfl,rfl⟩,QU tr rs,rfl⟩⟩
    ·cases q1
   ·cases h
  ·cases hl:Zk f ns ds with
   | none=>rw[hl]at h;cases h
   | some ds2 =>
    rw[hl]at h
    cases h
    obtain⟨a,kvs,p,k⟩:=JaR hl rs
    exact⟨a,kvs,p,fun C' H' tr nk=>⟨v,vs',[],[],e,tr _ _ r,k C' H' tr nk,rfl⟩⟩
theorem lock_at {p:Option (Str × Str)} {d d':D} {v:V} {fp:List Addr} (h:JaM p d=some d') (r:Rep C H d v fp):fp=[]∧∃a kvs,(Rd C.H0 a (.dK kvs)∧a∉C.A) ∧
  ∀C' H',C'.mg=C.mg→(∀d v,Rep C H d v []→Rep C' H' d v [])→(∀b u,Nd C H .l b u []→Nd C' H' .l b u [])→Nd C' H' .k a (.dK kvs) []→Rep C' H' d' v []:=by
 unfold JaM at h
 split at h
 ·rename_i ks ds
  cases h
  obtain⟨a,kvs,g1,g2,ev,nd,q,r2,z,e3⟩:=r
  have h1:g1=[]:=nd.2
  have h2:g2=[]:=z.elim (fun q=>nomatch q) id
  subst h1 h2
  obtain⟨⟨h0,na⟩ | ⟨xs,q1,_⟩,_⟩:=nd
  ·exact⟨e3,a,kvs,⟨h0,na⟩,fun C' H' _ tr _ nk=>⟨a,kvs,[],[],ev,nk,q,QU tr r2,.inr rfl,rfl⟩⟩
  ·cases q1
 ·rename_i c f c' ns ds
  split at h
  ·rename_i hc
   cases hl:Zk f ns ds with
   | none=>rw[hl]at h;cases h
   | some ds2 =>
    rw[hl]at h
    cases h
    obtain⟨b,Ca,dx,fls,g1,g2,ev,cl,nd,hn,r2,z,e3⟩:=r
    have h1:g1=[]:=nd.2
    have h2:g2=[]:=z.elim (fun q=>nomatch q) id
    subst h1 h2
    obtain⟨a,kvs,pr,k⟩:=JaR hl r2
    exact⟨e3,a,kvs,pr,fun C' H' hm tr tn nk=>⟨b,Ca,dx,fls,[],[],ev,Ul hm cl,tn _ _ nd,hn,k C' H' tr nk,.inr rfl,rfl⟩⟩
  ·cases h
 ·cases h
end
section
variable {C:Ctx} {H H2:Hp} {a:Addr} {od:Obj} {kvs:List (Key × V)}
theorem QX (h:H a=some (.dK kvs)) {g b u fp} (n:Nd C H g b u fp) (hfp:a∉fp):Nd (ctxK C a) (L2.upd H a (.frz od (.dK kvs))) g b u fp:=by
 cases g with
 | m =>
  obtain⟨e,rfl⟩:=n
  have hb:b≠a:=fun z=>hfp (by simp[z])
  exact⟨by rw[upd_ne hb];exact e,rfl⟩
 | l=>exact n
 | f =>
  obtain⟨⟨o,e⟩,x,q⟩:=n
  have hb:b≠a:=by rintro rfl;rw[h]at e;cases e
  exact⟨⟨o,by rw[upd_ne hb];exact e⟩,by simp[ctxK,hb,x],q⟩
 | k =>
  obtain⟨⟨o,e⟩,q⟩:=n
  have hb:b≠a:=by rintro rfl;rw[h]at e;cases e
  exact⟨⟨o,by rw[upd_ne hb];exact e⟩,q⟩
mutual
theorem Rep.lockIn (h:H a=some (.dK kvs)):∀{d:D} {v:V} {fp:List Addr},Rep C H d v fp→a∉fp→Rep (ctxK C a) (L2.upd H a (.frz od (.dK kvs))) d v fp
 | .non,v,fp,r,_=>r
 | .bl b,v,fp,r,_=>r
 | .int i,v,fp,r,_=>r
 | .str s,v,fp,r,_=>r
 | .ty s,v,fp,r,_=>r
 | .tup ds,v,fp,⟨b,vs,e,t,r⟩,hn=>⟨b,vs,e,Zq t (Mono.upd h trivial),Reps.lockIn h r hn⟩
 | .lst g ds,v,fp,⟨b,vs,f1,f2,e,n,r,z,e2⟩,hn=>⟨b,vs,f1,f2,e,QX h n (fun q=>hn (by rw[e2];exact List.mem_append_left _ q)),Reps.lockIn h r (fun q=>hn (by rw[e2];exact List.mem_append_right _ q)),z,e2⟩
 | .dct g ks ds,v,fp,⟨b,vs,f1,f2,e,n,q,r,z,e2⟩,hn=>⟨b,vs,f1,f2,e,QX h n (fun q=>hn (by rw[e2];exact List.mem_append_left _ q)),q,Reps.lockIn h r (fun q=>hn (by rw[e2];exact List.mem_append_right _ q)),z,e2⟩
 | .obj g c ns ds,v,fp,⟨b,Ca,dx,fls,f1,f2,e,c1,n,q,r,z,e2⟩,hn=>⟨b,Ca,dx,fls,f1,f2,e,c1,QX h n (fun q=>hn (by rw[e2];exact List.mem_append_left _ q)),q,Reps.lockIn h r (fun q=>hn (by rw[e2];exact List.mem_append_right _ q)),z,e2⟩
 | .exc c ns ds,v,fp,⟨b,Ca,d,fls,e,c1,n,x,q,r,e2⟩,hn=>⟨b,Ca,d,fls,e,c1,(Mono.upd h trivial).x _ _ trivial n,x.mono (Mono.upd h trivial),q,Reps.lockIn h r (fun q=>nomatch q),e2⟩
theorem Reps.lockIn (h:H a=some (.dK kvs)):∀{ds:List D} {vs:List V} {fp:List Addr},Reps C H ds vs fp→a∉fp→Reps (ctxK C a) (L2.upd H a (.frz od (.dK kvs))) ds vs fp
 | [],vs,fp,r,_=>r
 | d::ds,vs,fp,⟨v,vs',f1,f2,e,r,rs,e2⟩,hn=>⟨v,vs',f1,f2,e,Rep.lockIn h r (fun q=>hn (by rw[e2];exact List.mem_append_left _ q)),Reps.lockIn h rs (fun q=>hn (by rw[e2];exact List.mem_append_right _ q)),e2⟩
end
theorem QG {b:Addr} {o:HO} (h:H2 a=some (.frz od (.dK kvs))) (k:Hard o) (e:H2 b=some o):L2.upd H2 a (.dK kvs) b=some o:=by
 have hb:b≠a:=by rintro rfl;rw[h]at e;cases e;exact k
 rw[upd_ne hb];exact e
theorem xd_unlock (h:H2 a=some (.frz od (.dK kvs))):∀{d:Option Addr} {fl:List (Str × V)},XdAt H2 d fl→XdAt (L2.upd H2 a (.dK kvs)) d fl
 | none,_,x=>x
 | some _,_,x=>QG h trivial x
theorem sqt_unlock {K b xs} (h:H2 a=some (.frz od (.dK kvs))) (t:SqT K H2 b xs):SqT K (L2.upd H2 a (.dK kvs)) b xs:=by
 rcases t with (q | ⟨o,q⟩) | q
 ·exact .inl (.inl (by rw[upd_ne (by rintro rfl;rw[h]at q;cases q)];exact q))
 ·exact .inl (.inr ⟨o,by rw[upd_ne (by rintro rfl;rw[h]at q;cases q)];exact q⟩)
 ·exact .inr q
theorem QD (h:H2 a=some (.frz od (.dK kvs))) {g b u fp} (n:Nd (ctxK C a) H2 g b u fp) (mu:Mutb u) (hg:(g != .k)=true):Nd C (L2.upd H2 a (.dK kvs)) g b u fp:=by
 cases g with
 | m =>
  obtain⟨e,rfl⟩:=n
  have hb:b≠a:=by rintro rfl;rw[h]at e;cases e;exact mu
  exact⟨by rw[upd_ne hb];exact e,rfl⟩
 | l=>exact n
 | f =>
  obtain⟨⟨o,e⟩,x,q⟩:=n
  simp only[ctxK,List.mem_cons,not_or]at x
  exact⟨⟨o,by rw[upd_ne x.1];exact e⟩,x.2,q⟩
 | k=>cases hg
mutual
theorem Rep.unlock (h:H2 a=some (.frz od (.dK kvs))):∀{d:D} {v:V} {fp:List Addr},Rep (ctxK C a) H2 d v fp→d.nok=true→Rep C (L2.upd H2 a (.dK kvs)) d v fp
 | .non,v,fp,r,_=>r
 | .bl b,v,fp,r,_=>r
 | .int i,v,fp,r,_=>r
 | .str s,v,fp,r,_=>r
 | .ty s,v,fp,r,_=>r
 | .tup ds,v,fp,⟨b,vs,e,t,r⟩,hn=>⟨b,vs,e,sqt_unlock h t,Reps.unlock h r hn⟩
 | .lst g ds,v,fp,⟨b,vs,f1,f2,e,n,r,z,e2⟩,hn=>⟨b,vs,f1,f2,e,QD h n trivial (Bool.and_eq_true_iff.mp hn).1,Reps.unlock h r (Bool.and_eq_true_iff.mp hn).2,z,e2⟩
 | .dct g ks ds,v,fp,⟨b,vs,f1,f2,e,n,q,r,z,e2⟩,hn=>⟨b,vs,f1,f2,e,QD h n trivial (Bool.and_eq_true_iff.mp hn).1,q,Reps.unlock h r (Bool.and_eq_true_iff.mp hn).2,z,e2⟩
 | .obj g c ns ds,v,fp,⟨b,Ca,dx,fls,f1,f2,e,c1,n,q,r,z,e2⟩,hn=>⟨b,Ca,dx,fls,f1,f2,e,c1,QD h n trivial (Bool.and_eq_true_iff.mp hn).1,q,Reps.unlock h r (Bool.and_eq_true_iff.mp hn).2,z,e2⟩
 | .exc c ns ds,v,fp,⟨b,Ca,d,fls,e,c1,n,x,q,r,e2⟩,hn=>⟨b,Ca,d,fls,e,c1,QG h trivial n,xd_unlock h x,q,Reps.unlock h r hn,e2⟩
theorem Reps.unlock (h:H2 a=some (.frz od (.dK kvs))):∀{ds:List D} {vs:List V} {fp:List Addr},Reps (ctxK C a) H2 ds vs fp→noks ds=true→Reps C (L2.upd H2 a (.dK kvs)) ds vs fp
 | [],vs,fp,r,_=>r
 | d::ds,vs,fp,⟨v,vs',f1,f2,e,r,rs,e2⟩,hn=>⟨v,vs',f1,f2,e,Rep.unlock h r (Bool.and_eq_true_iff.mp hn).1,Reps.unlock h rs (Bool.and_eq_true_iff.mp hn).2,e2⟩
end
end
section
variable {X:Cx} {W:WX} {M Vs:List Nat} {st:Stmt} {c:CS} {C:Ctx} {fs:FPs} {env:Env} {σ:L2.St} {H:Hp} {tf:List Addr} {i:Nat} {d d':D} {a:Addr} {od:Obj} {kvs:List (Key × V)}
theorem lock_in {v:V} (G:Good C fs env σ H tf) (e:env[i]?=some (some d)) (ev:σ[i]?=some (some v)) (fe:fs.getD i []=[]) (hH:H a=some (.dK kvs)) (h0:Rd C.H0 a (.dK kvs)∧a∉C.A)
  (hd:Rep (ctxK C a) (L2.upd H a (.frz od (.dK kvs))) d' v []):Good (ctxK C a) fs (env.set i (some d')) σ (L2.upd H a (.frz od (.dK kvs))) tf:=by
 have na:a∉fs.flatten++tf:=fun z=>by
  rcases G.own a z with q | q
  ·exact h0.2 q
  ·rcases h0.1 with r | ⟨_,r⟩<;>rw[q]at r<;>cases r
 have nf:∀j,a∉fs.getD j []:=fun j z=>na (List.mem_append_left _ (Yo z))
 refine⟨by simpa using G.le,G.lf,fun j dj ej=>?_,G.nd,G.own,fun b hb=>?_,fun b o eb nb=>?_,fun b hb=>?_⟩
 ·rw[List.getElem?_set]at ej
  by_cases hj:i=j
  ·subst hj
   have hlt:i < env.length:=(List.getElem?_eq_some_iff.mp e).1
   simp[hlt]at ej
   subst ej
   rw[fe]
   exact⟨v,ev,hd⟩
  ·rw[if_neg hj]at ej
   obtain⟨v,ev,r⟩:=G.rep j dj ej
   exact⟨v,ev,r.lockIn hH (nf j)⟩
 ·obtain⟨o,eb,mu⟩:=G.trk b hb
  have hba:b≠a:=by rintro rfl;exact na hb
  exact⟨o,by rw[upd_ne hba];exact eb,mu⟩
 ·by_cases hba:b=a
  ·subst hba
   rcases G.fr b o eb nb with q | ⟨q1,q2,ob,q⟩
   ·rw[hH]at q;cases q
    exact .inr ⟨by simp[ctxK],trivial,od,upd_same⟩
   ·rw[hH]at q;cases q
  ·rcases G.fr b o eb nb with q | ⟨q1,q2,ob,q⟩
   ·exact .inl (by rw[upd_ne hba];exact q)
   ·exact .inr ⟨by simp[ctxK,q1],q2,ob,by rw[upd_ne hba];exact q⟩
 ·by_cases hba:b=a
  ·subst hba;exact⟨od,_,upd_same⟩
  ·have hb':b∈C.Lk:=by simpa [ctxK,hba] using hb
   obtain⟨ob,u,q⟩:=G.lk b hb'
   exact⟨ob,u,by rw[upd_ne hba];exact q⟩
theorem lock_out {fs':FPs} {env':Env} {σ':L2.St} {H':Hp} {fp:List Addr} {js:List Nat} (G:Good C fs env σ H tf) (e:env[i]?=some (some d)) (hH:H a=some (.dK kvs)) (h0:Rd C.H0 a (.dK kvs)∧a∉C.A)
  (hM:i∉M) (hV:i∉Vs) (hj:∀j,j∈M∨j∈Vs→j∈js)
  (G':Good (ctxK C a) fs' env' σ' H' (fp++tf)) (s:StepS M Vs tf fs (env.set i (some d')) σ (L2.upd H a (.frz od (.dK kvs))) fs' env' σ' H') (ok:okK js env'=true) :
  H' a=some (.frz od (.dK kvs))∧Good C fs' (env'.set i (some d)) σ' (L2.upd H' a (.dK kvs)) (fp++tf)∧StepS M Vs tf fs env σ H fs' (env'.set i (some d)) σ' (L2.upd H' a (.dK kvs)):=by
 have hz:H' a=some (.frz od (.dK kvs)):=s.s.m.z _ _ _ upd_same
 have hie:i < env.length:=(List.getElem?_eq_some_iff.mp e).1
 have na0:∀b,b∈C.A∨C.H0 b=none→b≠a:=fun b q=>by
  rintro rfl
  rcases q with q | q
  ·exact h0.2 q
  ·rcases h0.1 with r | ⟨_,r⟩<;>rw[q]at r<;>cases r
 have na:∀b∈fs'.flatten++(fp++tf),b≠a:=fun b hb=>na0 b (G'.own b hb)
 have nf:∀j b,b∈fs.getD j []→b≠a:=fun j b hb=>na0 b (G.own b (List.mem_append_left _ (Yo hb)))
 have mono:Mono H (L2.upd H' a (.dK kvs)):=by
  refine⟨?_,?_,fun b o k eb=>?_⟩
  rotate_left 2
  ·have hba:b≠a:=by rintro rfl;rw[hH]at eb;cases eb;exact k
   rw[upd_ne hba];exact s.s.m.x b o k (by rw[upd_ne hba];exact eb)
  ·intro b xs eb
   have hba:b≠a:=by rintro rfl;rw[hH]at eb;cases eb
   rw[upd_ne hba];exact s.s.m.t b xs (by rw[upd_ne hba];exact eb)
  ·intro b o u eb
   have hba:b≠a:=by rintro rfl;rw[hH]at eb;cases eb
   rw[upd_ne hba];exact s.s.m.z b o u (by rw[upd_ne hba];exact eb)
 have keepf:∀j,j∉M→∀b∈fs.getD j [],L2.upd H' a (.dK kvs) b=H b:=fun j hj b hb=>by
  rw[upd_ne (nf j b hb),s.s.h j hj b hb,upd_ne (nf j b hb)]
 refine⟨hz,⟨by have:=G'.le;simpa using this,G'.lf,fun j dj ej=>?_,G'.nd,G'.own,fun b hb=>?_,fun b o eb nb=>?_,fun b hb=>?_⟩,⟨⟨fun b hb=>?_,s.s.f,fun j hj'=>?_,keepf,mono⟩,s.v⟩⟩
 ·rw[List.getElem?_set]at ej
  by_cases hij:i=j
  ·subst hij
   have hlt:i < env'.length:=by
    have h1:=G'.le
    have h2:=G.le
    obtain⟨v,ev,_⟩:=G.rep i d e
    have:=s.v i hV
    rw[ev]at this
    have:=(List.getElem?_eq_some_iff.mp this).1
    omega
   simp[hlt]at ej
   subst ej
   obtain⟨v,ev,r⟩:=G.rep i d e
   refine⟨v,by rw[s.v i hV];exact ev,?_⟩
   rw[s.s.f i hM]
   exact r.keep (keepf i hM) mono
  ·rw[if_neg hij]at ej
   by_cases hjs:j∈js
   ·obtain⟨w,ew,rw'⟩:=G'.rep j dj ej
    have hn:=List.all_eq_true.mp ok j hjs
    rw[ej]at hn
    exact⟨w,ew,rw'.unlock hz hn⟩
   ·have hjM:j∉M:=fun z=>hjs (hj j (.inl z))
    have hjV:j∉Vs:=fun z=>hjs (hj j (.inr z))
    have e1:=s.s.e j hjM
    rw[ej,List.getElem?_set,if_neg hij]at e1
    obtain⟨w,ew,rw'⟩:=G.rep j dj e1.symm
    refine⟨w,by rw[s.v j hjV];exact ew,?_⟩
    rw[s.s.f j hjM]
    exact rw'.keep (keepf j hjM) mono
 ·obtain⟨o,eb,mu⟩:=G'.trk b hb
  exact⟨o,by rw[upd_ne (na b hb)];exact eb,mu⟩
 ·by_cases hba:b=a
  ·subst hba
   rcases G.fr b o eb nb with q | ⟨q1,q2,ob,q⟩
   ·rw[hH]at q;cases q
    exact .inl upd_same
   ·rw[hH]at q;cases q
  ·rcases G'.fr b o eb nb with q | ⟨q1,q2,ob,q⟩
   ·exact .inl (by rw[upd_ne hba];exact q)
   ·exact .inr ⟨by simpa [ctxK,hba] using q1,q2,ob,by rw[upd_ne hba];exact q⟩
 ·obtain⟨ob,u,q⟩:=G.lk b hb
  have hba:b≠a:=by rintro rfl;rw[hH]at q;cases q
  obtain⟨ob2,u2,q2⟩:=G'.lk b (by simp[ctxK,hb])
  exact⟨ob2,u2,by rw[upd_ne hba];exact q2⟩
 ·have hba:b≠a:=na b (by simp[hb])
  rw[upd_ne hba,s.s.t b hb,upd_ne hba]
 ·rw[List.getElem?_set]
  by_cases hij:i=j
  ·subst hij
   have hlt:i < env'.length:=by
    have h1:=G'.le
    obtain⟨v,ev,_⟩:=G.rep i d e
    have:=s.v i hV
    rw[ev]at this
    have:=(List.getElem?_eq_some_iff.mp this).1
    omega
   simp[hlt,e]
  ·rw[if_neg hij]
   have:=s.s.e j hj'
   rw[List.getElem?_set,if_neg hij]at this;exact this
theorem Good.relab {v:V} (G:Good C fs env σ H tf) (e:env[i]?=some (some d)) (ev:σ[i]?=some (some v)) (hd:Rep C H d' v (fs.getD i [])):Good C fs (env.set i (some d')) σ H tf:=by
 refine⟨by simpa using G.le,G.lf,fun j dj ej=>?_,G.nd,G.own,G.trk,G.fr,G.lk⟩
 rw[List.getElem?_set]at ej
 by_cases hj:i=j
 ·subst hj
  have hlt:i < env.length:=(List.getElem?_eq_some_iff.mp e).1
  simp[hlt]at ej
  subst ej
  exact⟨v,ev,hd⟩
 ·rw[if_neg hj]at ej
  exact G.rep j dj ej
theorem relab_out {fs':FPs} {env':Env} {σ':L2.St} {H':Hp} {fp:List Addr} (G:Good C fs env σ H tf) (e:env[i]?=some (some d)) (hM:i∉M) (hV:i∉Vs)
  (G':Good C fs' env' σ' H' (fp++tf)) (s:StepS M Vs tf fs (env.set i (some d')) σ H fs' env' σ' H') :
  Good C fs' (env'.set i (some d)) σ' H' (fp++tf)∧StepS M Vs tf fs env σ H fs' (env'.set i (some d)) σ' H':=by
 have hie:i < env.length:=(List.getElem?_eq_some_iff.mp e).1
 obtain⟨v,ev,r⟩:=G.rep i d e
 have hv:=s.v i hV
 rw[ev]at hv
 have hlt:i < env'.length:=by
  have h1:=G'.le
  have:=(List.getElem?_eq_some_iff.mp hv).1
  omega
 refine⟨⟨by have:=G'.le;simpa using this,G'.lf,fun j dj ej=>?_,G'.nd,G'.own,G'.trk,G'.fr,G'.lk⟩,⟨⟨s.s.t,s.s.f,fun j hj'=>?_,s.s.h,s.s.m⟩,s.v⟩⟩
 ·rw[List.getElem?_set]at ej
  by_cases hij:i=j
  ·subst hij
   simp[hlt]at ej
   subst ej
   refine⟨v,hv,?_⟩
   rw[s.s.f i hM]
   exact r.keep (s.s.h i hM) s.s.m
  ·rw[if_neg hij]at ej
   exact G'.rep j dj ej
 ·rw[List.getElem?_set]
  by_cases hij:i=j
  ·subst hij;simp[hlt,e]
  ·rw[if_neg hij]
   have:=s.s.e j hj'
   rw[List.getElem?_set,if_neg hij]at this;exact this
end
def ZQ (c:CE):CA:=fun env=>(c env).bind fun d env=>match d with
 | .dct .k ks _=>.ok (ks.map keyD) env
 | _=>.err
theorem rep_keyD {C:Ctx} {H:Hp} (k:Key):Rep C H (keyD k) (kV k) []:=by
 cases k with
 | inl i=>exact⟨rfl,rfl⟩
 | inr x=>exact⟨rfl,rfl⟩
section
variable {X:Cx} {W:WX} {M Rs:List Nat} {e tg:Expr} {ca:CE} {pos p:Pos}
theorem walk_keys {d:Addr} {o:Obj} {kvs:List (Key × V)}:Walk (Itk d o kvs) kvs.length (fun H=>H d=some (.frz o (.dK kvs))) (fun i H x H'=>H'=H∧∃k v,kvs[i]?=some (k,v)∧x=kV k) :=
 ⟨fun i _ hi q=>⟨q,hi⟩,fun _ q=>⟨q,Nat.le_refl _⟩,fun _ _ _ _ _ _ y=>y⟩
theorem si_keys (h:SB X W M Rs e ca):SI X W M Rs tg e (ZQ ca):=by
 obtain⟨t,pe,q⟩:=h.go
 refine⟨iKeys t,pi_keys pe,fun C fs env σ H tf Q hC G po=>?_⟩
 show t σ H fun x H1=>_
 refine q C fs env σ H tf _ hC G ?_
 unfold ZQ at po
 cases e1:ca env with
 | err=>rw[e1]at po;exact po
 | ex x env'=>rw[e1]at po;exact po
 | ok d env1 =>
  rw[e1]at po
  intro v fs1 H1 fp own G1 s1 r1 i1
  cases d with
  | dct g ks ds =>
   cases g with
   | k =>
    have po':QP W C M Rs tf fs env σ H Q (.ok (ks.map keyD) env1):=po
    obtain⟨a,kvs,f1,f2,rfl,⟨⟨o,hz⟩,_⟩,⟨hks,_⟩,_⟩:=r1
    refine⟨a,o,rfl,.inl ⟨kvs,hz,po' _ fs1 H1 fp own G1 s1 ⟨?_⟩ i1⟩⟩
    have hl:(ks.map keyD).length=kvs.length:=by rw[←hks];simp
    rw[hl]
    refine Walk.mono walk_keys (fun H2 h2=>h2.2.1.z _ _ _ hz) fun i H2 x H3 hi h2 ⟨e1,k,w,e2,e3⟩=>?_
    subst e1 e3
    exact⟨.refl _,keyD k,by rw[←hks];simp[e2],rep_keyD k⟩
   | _=>exact po.elim
  | _=>exact po.elim
end
@[simp] theorem e_keysD {ca:CE} {env:Env}:ZQ ca env=(ca env).bind fun d env=>match d with
 | .dct .k ks _=>.ok (ks.map keyD) env
 | _=>.err:=(rfl)
end VS
namespace VS
open PySem L2 SeqAt PySem.Spec PyProof.Rows
def Zn (i:Nat) (d:D) (js:List Nat):R D→R D
 | .ok r env=>if r.nol && okN js env then .ok r (env.set i (some d)) else .err
 | _=>.err
def Jas (i:Nat) (js:List Nat) (c:CE):CE:=fun env=>match env[i]? with
 | some (some d)=>Zn i d js (c (env.set i (some d.lend)))
 | _=>.err
def Um (i:Nat) (d:D) (js:List Nat):R D→R D
 | .ok r env=>if r.nok && okK js env then .ok r (env.set i (some d)) else .err
 | _=>.err
def JbM (i:Nat) (p:Option (Str × Str)) (js:List Nat) (c:CE):CE:=fun env=>match env[i]? with
 | some (some d)=>match JaM p d with
  | some d'=>Um i d js (c (env.set i (some d')))
  | none=>.err
 | _=>.err
section
variable {X:Cx} {W:WX} {M:List Nat} {e:Expr} {c:CE}
theorem so_lend (i:Nat) (js:List Nat) (h:SO X W M e c) (hM:i∉M:=by decide) (hj:∀j∈M,j∈js:=by decide):SO X W M e (Jas i js c):=by
 obtain⟨t,p,q⟩:=h.go
 have hj':∀j,j∈M∨j∈([]:List Nat)→j∈js:=fun j z=>z.elim (hj j) fun z=>nomatch z
 refine⟨t,p,fun C fs env σ H tf Q hC G po=>?_⟩
 unfold Jas at po
 cases e1:env[i]? with
 | none=>rw[e1]at po;exact po.elim
 | some od =>
 cases od with
 | none=>rw[e1]at po;exact po.elim
 | some d =>
 rw[e1]at po
 simp only at po
 obtain⟨En,hd,G1⟩:=Jcj G e1
 refine q (ctxL C fs i tf H) (fs.set i []) (env.set i (some d.lend)) σ H tf Q hC G1 ?_
 cases e2:c (env.set i (some d.lend)) with
 | err=>rw[e2]at po;exact po.elim
 | ex x env'=>rw[e2]at po;exact po.elim
 | ok r env' =>
  rw[e2]at po
  intro v fs' H' fp G' s rr
  cases ok:(r.nol && okN js env') with
  | false=>simp only[Zn,ok]at po;exact po.elim
  | true =>
   simp only[Zn,ok,if_true]at po
   obtain⟨o1,o2⟩:=Bool.and_eq_true_iff.mp ok
   obtain⟨a,b⟩:=lend_out (Vs:=[]) G e1 hM (fun z=>nomatch z) hj' G' s.ss o2
   exact po _ _ _ _ a b.s (Rep.leave (C:=C) (C':=ctxL C fs i tf H) rfl rfl rfl rr o1)
theorem pe_or {t1 t2:TE} (h1:PE X e t1) (h2:PE X e t2):PE X e (fun σ H Q=>t1 σ H Q∨t2 σ H Q) :=
 ⟨fun pins s σ H Q I hw=>hw.elim (h1.run pins s σ H Q I) (h2.run pins s σ H Q I)⟩
theorem so_lock (i:Nat) (p:Option (Str × Str)) (js:List Nat) (h:SO X W M e c) (hM:i∉M:=by decide) (hj:∀j∈M,j∈js:=by decide):SO X W M e (JbM i p js c):=by
 obtain⟨t,pe,q⟩:=h.go
 have hj':∀j,j∈M∨j∈([]:List Nat)→j∈js:=fun j z=>z.elim (hj j) fun z=>nomatch z
 refine⟨_,pe_or pe (pe_lock pe),fun C fs env σ H tf Q hC G po=>?_⟩
 unfold JbM at po
 cases e1:env[i]? with
 | none=>rw[e1]at po;exact po.elim
 | some od =>
 cases od with
 | none=>rw[e1]at po;exact po.elim
 | some d =>
 rw[e1]at po
 simp only at po
 cases hl:JaM p d with
 | none=>rw[hl]at po;exact po.elim
 | some d' =>
 rw[hl]at po
 simp only at po
 obtain⟨v,ev,r⟩:=G.rep i d e1
 obtain⟨fe,a,kvs,h0,tr⟩:=lock_at hl r
 have frz:(∃o,H a=some (.frz o (.dK kvs)))∨H a=some (.dK kvs):=by
  rcases h0.1 with z | ⟨o,z⟩
  ·rcases G.fr a _ z h0.2 with q | ⟨_,_,ob,q⟩
   ·exact .inr q
   ·exact .inl ⟨ob,q⟩
  ·rcases G.fr a _ z h0.2 with q | ⟨_,mu,ob,q⟩
   ·exact .inl ⟨o,q⟩
   ·exact mu.elim
 rw[fe]at r
 rcases frz with hf | hH
 ·refine .inl (q C fs (env.set i (some d')) σ H tf Q hC (G.relab e1 ev (by rw[fe];exact tr C H rfl (fun _ _ z=>z) (fun _ _ z=>z) ⟨hf,rfl⟩)) ?_)
  cases e2:c (env.set i (some d')) with
  | err=>rw[e2]at po;exact po.elim
  | ex x env'=>rw[e2]at po;exact po.elim
  | ok r1 env' =>
   rw[e2]at po
   intro w fs' H' fp G' s rr
   cases ok:(r1.nok && okK js env') with
   | false=>simp only[Um,ok]at po;exact po.elim
   | true =>
    simp only[Um,ok,if_true]at po
    obtain⟨a1,b1⟩:=relab_out (Vs:=[]) G e1 hM (fun z=>nomatch z) G' s.ss
    exact po _ _ _ _ a1 b1.s rr
 ·refine .inr ⟨a,.dK kvs,hH,trivial,fun od=>?_⟩
  have G1:=lock_in (od:=od) (d':=d') G e1 ev fe hH h0 (tr (ctxK C a) _ rfl (fun _ _ z=>z.lockIn hH (fun q=>nomatch q)) (fun _ _ z=>QX hH z (fun q=>nomatch q)) ⟨⟨od,upd_same⟩,rfl⟩)
  refine q (ctxK C a) fs (env.set i (some d')) σ _ tf _ hC G1 ?_
  cases e2:c (env.set i (some d')) with
  | err=>rw[e2]at po;exact po.elim
  | ex x env'=>rw[e2]at po;exact po.elim
  | ok r1 env' =>
   rw[e2]at po
   intro w fs' H' fp G' s rr
   cases ok:(r1.nok && okK js env') with
   | false=>simp only[Um,ok]at po;exact po.elim
   | true =>
    simp only[Um,ok,if_true]at po
    obtain⟨o1,o2⟩:=Bool.and_eq_true_iff.mp ok
    obtain⟨z1,a1,b1⟩:=lock_out (Vs:=[]) G e1 hH h0 hM (fun z=>nomatch z) hj' G' s.ss o2
    exact⟨z1,po _ _ _ _ a1 b1.s (rr.unlock z1 o1)⟩
end
@[simp] theorem e_cLend (i:Nat) (js:List Nat) (c:CE) (env:Env):Jas i js c env=match env[i]? with
 | some (some d)=>Zn i d js (c (env.set i (some d.lend)))
 | _=>.err:=(rfl)
@[simp] theorem e_cLock (i:Nat) (p:Option (Str × Str)) (js:List Nat) (c:CE) (env:Env):JbM i p js c env=match env[i]? with
 | some (some d)=>match JaM p d with
  | some d'=>Um i d js (c (env.set i (some d')))
  | none=>.err
 | _=>.err:=(rfl)
end VS
namespace VS
open PySem L2 SeqAt PySem.Spec PyProof.Rows
structure FnG (P:Program) (w:World) (K:PySem.W.Frag) (mg:Str→Option Value) (base:Heap) (k:Nat) (f:Addr) (fd:FuncData) (ps:List Str) (sp:Sp):Prop where
 len:∀vs H Q E,sp vs H Q E→vs.length=ps.length
 go:∀(B:Around) (fr:List PySem.Env) (t:Shared) (H:Hp) (as:Args) (us:List Value) (vs:List V) (Q:VK) (E:XK),Room k B→B.guards=some []→Env0 P w K mg base B fr t H→BindsTo t fd as (ps.zip us)→Vals vs us→sp vs H Q E →
  codeAny (model P w) B (.call (.ref f) as) (CR (L2.CX P w) fr P w H t Q E) t
section
variable {P:Program} {w:World} {K:PySem.W.Frag} {mg:Str→Option Value} {base:Heap}
theorem FnG.mono {j k:Nat} {f:Addr} {fd:FuncData} {ps:List Str} {sp:Sp} (F:FnG P w K mg base j f fd ps sp) (h:j≤k):FnG P w K mg base k f fd ps sp :=
 ⟨F.len,fun B fr t H as us vs Q E hr hg=>F.go B fr t H as us vs Q E (hr.mono h) hg⟩
theorem FnG.imp {k:Nat} {f:Addr} {fd:FuncData} {ps:List Str} {sp sp':Sp} (F:FnG P w K mg base k f fd ps sp) (h:∀vs H Q E,sp' vs H Q E→sp vs H Q E):FnG P w K mg base k f fd ps sp' :=
 ⟨fun vs H Q E q=>F.len vs H Q E (h _ _ _ _ q),fun B fr t H as us vs Q E hr hg e0 hb hv q=>F.go B fr t H as us vs Q E hr hg e0 hb hv (h _ _ _ _ q)⟩
theorem fng_of {k:Nat} {f:Addr} {nm qual:Str} {ar:Arguments} {body:List Stmt} {sco:Scope} {dV kV doc pm cdv ct oc:Value} {an od:Option Addr} {osl:Array (Option Value)} {N ps:List Str} {sp:Sp}
  (lk:K.lookup f=some ⟨oc,od,.func (PySem.W.fnOf nm qual ar body sco dV kV doc pm an cdv ct),osl⟩) (hcd:PySem.W.codeIn K cdv qual=true) (S:FnScope N ps sco) (len:∀vs H Q E,sp vs H Q E→vs.length=ps.length)
  (hbd:∀(B:Around) (fr:List PySem.Env) (t:Shared) (H:Hp) (vs:List V) (Q:VK) (E:XK),Room k (B.deeper (envOfC qual sco t.heap.objs.size f cdv))→B.guards=some []→sp vs H Q E →
   ∃rd,PSs (cxOf (L2.CX P w) P w K mg base N qual sco f cdv B fr t H E) body rd∧rd { nx:=fun _ H'=>Q .non H',rt:=Q } (start N vs) H) :
  FnG P w K mg base (k+1) f (PySem.W.fnOf nm qual ar body sco dV kV doc pm an cdv ct) ps sp:=by
 refine⟨len,fun B fr t H as us vs Q E hr hgd e0 hb rv hsp=>?_⟩
 have hlen:=len _ _ _ _ hsp
 have kin:K.In t.heap:=e0.mod.kin.keeps fun b o e=>(e0.bs b o e).1
 have nolim:t.heap.NoLimit:=e0.mod.nolimit.keeps fun b o e=>(e0.bs b o e).1
 have kinds:∀y∈ps.zip us,sco.names.lookup y.1=some .local∨(sco.names.lookup y.1=some .cell∧((cellsFrom (t.heap.objs.size+1) sco.names []).lookup y.1).isSome=true):=fun ⟨n,v⟩ hy =>
  (S.par n (List.of_mem_zip hy).1).elim .inl fun q=>.inr ⟨q,PySem.W.cellsFrom_some _ _ _ (.inl q)⟩
 refine codeAny_call_function hr.depth (kin _ _ lk) rfl S.co S.gen rfl (PySem.W.codeRec_of kin hcd) (hb _ _ _ _ (wpAny_newFunctionEnv_cells S.kind kinds fun env he t1 x=>?_))
 subst he
 refine⟨nolim.keeps x.toInCall.keep,codeAny_func ?_⟩
 obtain⟨rd,hrd,hq⟩:=hbd B fr t H vs Q E (hr.deeper _) hgd hsp
 have I0:Inv (cxOf (L2.CX P w) P w K mg base N qual sco f cdv B fr t H E) [] (start N vs) H t1:=inv_start S hr.hd e0 hlen rv x
 refine wpAny_mono (hrd.run [] t1 (start N vs) H _ I0 hq) (fun fl t' hs=>?_) fun e t' hs=>hs
 cases fl with
 | ret u=>exact let ⟨v,_,H',J,rr,q⟩:=hs;⟨v,H',J.os,J.bare,J.base,J.hok,rr,q⟩
 | next=>exact let ⟨_,H',J,q⟩:=hs;⟨V.non,H',J.os,J.bare,J.base,J.hok,rfl,q⟩
 | brk=>exact let ⟨_,_,_,q⟩:=hs;q.elim
 | cont=>exact let ⟨_,_,_,q⟩:=hs;q.elim
theorem Jdc {x qual:Str} {st:Stmt} {f:Addr} {fd:FuncData} {N ps:List Str} {k:Nat} {io:List Bool} {c:CS} {M Vs:List Nat}
  (F:Fun K x qual st f fd) (S:FnScope N ps (defScope st)) (hio:io.length=ps.length) (hv:djB (Jx 0 io) Vs=true)
  (hb:∀(cdv:Value) (A:Around) (outer:List PySem.Env) (s:Shared) (H:Hp) (E:XK),Room k (A.deeper (envOfC qual (defScope st) s.heap.objs.size f cdv))→A.guards=some [] →
   SSs (cxOf (L2.CX P w) P w K mg base N qual (defScope st) f cdv A outer s H E) (fun cls d _ H=>E cls d H) M Vs (defBody st) c) :
  FnG P w K mg base (k+1) f fd ps (spF K mg io (YQ N.length io c)):=by
 obtain⟨oc,od,kV,doc,pm,an,cdv,ct,osl,rfl,lk,hcd⟩:=F.ex
 exact fng_of lk hcd S (fun vs H Q E h=>by obtain⟨Lk,ds,fps,hl,_⟩:=h;rw[hl,hio]) fun B fr t H vs Q E hr hg hsp=>Jci rfl rfl S hio hv (hb cdv B fr t H E hr hg) hsp
end
def FdG (P:Program) (w:World) (K:PySem.W.Frag) (mg:Str→Option Value) (base:Heap) (k:Nat) (x:Str) (ps:List Str) (io:List Bool) (φ:List D→FR):Prop :=
 ∃(f:Addr) (fd:FuncData),FnG P w K mg base k f fd ps (spF K mg io φ)∧mg x=some (.ref f)∧PySem.W.keepIn K (.ref f)=true∧Binds K fd ps []
theorem fdg_mk {P:Program} {w:World} {K:PySem.W.Frag} {mg:Str→Option Value} {base:Heap} {k:Nat} {x:Str} {st:Stmt} {f:Addr} {fd:FuncData} {ps:List Str} {io:List Bool} {φ:List D→FR} (F:Fun K x x st f fd) (hm:mg x=some (.ref f)) (hb:Binds K fd ps [])
  (h:FnG P w K mg base k f fd ps (spF K mg io φ)):FdG P w K mg base k x ps io φ:=⟨f,fd,h,hm,F.kp,hb⟩
theorem FdG.mono {P:Program} {w:World} {K:PySem.W.Frag} {mg:Str→Option Value} {base:Heap} {j k:Nat} {x:Str} {ps:List Str} {io:List Bool} {φ:List D→FR} (F:FdG P w K mg base j x ps io φ) (h:j≤k):FdG P w K mg base k x ps io φ :=
 let ⟨f,fd,G,a,b,c⟩:=F
 ⟨f,fd,G.mono h,a,b,c⟩
section
variable {X:Cx} {W:WX} {M Rs:List Nat} {e:Expr} {es:List Expr} {pos:Pos} {cr:Env→R (List AV)} {io:List Bool}
theorem run_g {k:Nat} {f:Addr} {fd:FuncData} {ps:List Str} {sp:Sp} {E:L2.St→XK} {pins:List (Addr × Obj)} {σ:L2.St} {H:Hp} {s:Shared} {Q:VK} {us:List Value} {vs:List V} (F:FnG X.prog X.w X.K X.mg X.base k f fd ps sp) (hr:Room k X.A) (hg:X.A.guards=some []) (hb:Binds X.K fd ps [])
  (hx:PassesAt (L2.CX X.prog X.w) X σ (E σ)) (I:Inv X pins σ H s) (rv:Vals vs us) (h:sp vs H Q (E σ)):wpAny (model X.prog X.w) X.A (call (.ref f) us) (EP X pins σ Q) X.xe s:=by
 have hlen:us.length=ps.length:=by rw[←rv.length];exact F.len _ _ _ _ h
 have bd:=hb s us I.kIn (by rw[List.append_nil];exact hlen)
 rw[List.append_nil]at bd
 refine wpAny_call (codeAny_mono (F.go X.A X.stack s H ⟨us,[]⟩ us vs Q (E σ) hr hg I.env0 bd rv h) fun out t hq=>?_)
 match out,hq with
 | .error e,hq=>exact hx pins H s e t I hq
 | .ok (.ret u),hq=>exact I.after hq
 | .ok .next,hq=>exact hq.elim
 | .ok .brk,hq=>exact hq.elim
 | .ok .cont,hq=>exact hq.elim
theorem so_callG {k:Nat} {x:Str} {ps:List Str} {φ:List D→FR} {pf:Pos} (F:FdG X.prog X.w X.K X.mg X.base k x ps io φ) (hr:Room k X.A) (hgd:X.A.guards=some []) (tk:Takes X W) (ha:SRI X W M Rs io (e::es) cr) (hg:Gl X x:=by rfl)
  (hdb:(x == ("__debug__" : Str))=false:=by decide) (he:starEach (e::es) X.env=(false,eval e X.env)::starEach es X.env:=by rfl) (hpl:(backTo pos (starEach es X.env)).any (·.1)=false:=by rfl) :
  SO X W M (.Call (.Name x pf) (e::es) [] pos) (Jo φ cr):=by
 obtain⟨f,fd,G,hm,hk,hb⟩:=F
 obtain⟨t,p,q⟩:=ha.sr.go
 refine⟨tCallS (spF X.K X.mg io φ) (WE W) t,⟨fun pins s σ H Q I h=>wpAny_Call_Name_kw (ld_glob I hg hm (PySem.W.callWith_K (h₀:=X.base) I.ok.mod.kin hk (thn (p.run pos pins s σ H _ I h) fun us s1 ⟨vs,H1,I1,r,q1⟩=>⟨I1.kIn,run_g G hr hgd hb (passAt tk σ) I1 r q1⟩) he hpl) hdb)⟩,?_⟩
 exact Jcn (E:=WE W) (fun _ _ _ _ h=>h) ha.shape q (by unfold djB;simp)
end
mutual
theorem JaN:∀{d:D} {y:PyData},d.py=some y→y.hasDict=false
 | .non,y,h=>by cases h;rfl
 | .bl b,y,h=>by cases h;rfl
 | .int i,y,h=>by cases h;rfl
 | .str s,y,h=>by cases h;rfl
 | .tup ds,y,h=>by
  obtain⟨ys,hy,rfl⟩:=Option.map_eq_some_iff.mp h
  show PyData.hasDictAll ys=false
  exact pys_nodict hy
 | .lst g ds,y,h=>by
  obtain⟨ys,hy,rfl⟩:=Option.map_eq_some_iff.mp h
  show PyData.hasDictAll ys=false
  exact pys_nodict hy
 | .ty _,_,h=>by cases h
 | .dct _ _ _,_,h=>by cases h
 | .obj _ _ _ _,_,h=>by cases h
 | .exc _ _ _,_,h=>by cases h
theorem pys_nodict:∀{ds:List D} {ys:List PyData},pys ds=some ys→PyData.hasDictAll ys=false
 | [],ys,h=>by cases h;rfl
 | d::ds,ys,h=>by
  obtain⟨y,hy,h⟩:=Option.bind_eq_some_iff.mp h
  obtain⟨ys',hys,rfl⟩:=Option.map_eq_some_iff.mp h
  show (PyData.hasDict y || PyData.hasDictAll ys')=false
  rw[JaN hy,pys_nodict hys];rfl
end
def shOk (y:PyData):Bool:=y.showable && decide (y.shown.length≤sizeLine) && decide (y.depth≤100)
def JaS:List D→Option D
 | [d]=>match d.py with
  | some y=>if shOk y then some (.str y.shown) else none
  | none=>none
 | _=>none
section
variable {X:Cx}
theorem Jcm {k:Nat} (hr:Room k X.A) (hg:X.A.guards=some []):ODL X (.builtin "repr") JaS:=by
 intro pins s σ H xs us Q I rv ⟨C,ds,fx,d,hC,hF,rs,e,k⟩
 unfold JaS at e
 split at e
 case h_2=>cases e
 rename_i d0
 split at e
 case h_2=>cases e
 rename_i y hy
 split at e
 case isFalse=>cases e
 rename_i hk
 cases e
 simp only[shOk,Bool.and_eq_true,decide_eq_true_eq]at hk
 obtain⟨v,rfl,r⟩:=YR rs
 obtain⟨u,rfl,ru⟩:=vals1 rv
 obtain⟨as,hrd,_⟩:=Ui I hC hF hy r ru
 have hun:=hr.un
 have hnd:=JaN hy
 have fin:∀tk,EP X pins σ Q (.str y.shown tk) { s with toks:=s.toks+1 }:=fun tk=>⟨.str y.shown,H,I.tok _,⟨tk,rfl⟩,k.here ⟨rfl,rfl⟩⟩
 cases hrd with
 | none=>exact PySem.P.repr_of_none (fin _)
 | bool b=>exact PySem.P.repr_of_bool (fin _)
 | int i t=>exact PySem.P.repr_of_int (by simpa [PyData.showable] using hk.1.1) (fin _)
 | str z t =>
  exact PySem.P.repr_of_str (fin _) hk.1.2
 | list h1 h2 h3 h4 =>
  refine repr_of_reads' (.list h1 h2 h3 h4) hk.1.1 (PyData.noDict_hsm hnd) hg (by have:=hk.2;omega) (fun _ _ e=>e) (fun h' u tk hk'=>?_) hk.1.2
  exact⟨.str _,H,I.kept (t':=tk) fun b o q=>hk' b o q,⟨_,rfl⟩,k.here ⟨rfl,rfl⟩⟩
 | tuple h1 h2 h3 h4 =>
  refine repr_of_reads' (.tuple h1 h2 h3 h4) hk.1.1 (PyData.noDict_hsm hnd) hg (by have:=hk.2;omega) (fun _ _ e=>e) (fun h' u tk hk'=>?_) hk.1.2
  exact⟨.str _,H,I.kept (t':=tk) fun b o q=>hk' b o q,⟨_,rfl⟩,k.here ⟨rfl,rfl⟩⟩
 | dict h1 h2 h3 h4 h5=>simp[PyData.hasDict]at hnd
end
theorem law_impG {P:Program} {w:World} {K:PySem.W.Frag} {mg:Str→Option Value} {base:Heap} {k:Nat} {f:Addr} {fd:FuncData} {x:Str} {φ:List D→FR} (F:FnG P w K mg base k f fd [x] (spF K mg [false] φ))
  (h:∀ns:List Int,ns.length≤63→(∀z∈ns,Builtin.Int.intBits z≤1048576)→φ [.lst .l (ns.map D.int)]=.ok (.bl true) []):FnG P w K mg base k f fd [x] (JbF K):=by
 refine F.imp fun vs H Q E ⟨a,ns,e,sq,h1,h2,q⟩=>?_
 subst e
 refine⟨[],[.lst .l (ns.map D.int)],[[]],rfl,⟨_,[],_,[],[],[],rfl,rfl,rfl,⟨a,ns.map V.int,[],[],rfl,⟨?_,rfl⟩,Ja0 ns,.inr rfl,rfl⟩,.inr rfl,⟨rfl,rfl,rfl⟩⟩,by simp,(fun _ z=>nomatch z),?_⟩
 ·exact sq.elim (fun z=>.inl ⟨z,by simp⟩) fun z=>.inr ⟨_,rfl,z⟩
 ·rw[h ns h1 h2]
  intro v H' fp fps _ _ r _ _ _
  obtain⟨rfl,_⟩:=r
  exact q H'
section
variable {P:Program} {w:World} {K:PySem.W.Frag} {mg mb:Str→Option Value} {k:Nat} {fa a:Addr} {fd:FuncData} {x:Str} {t:Shared} {vs:List Value} {ns:List Int}
theorem Jdb {H:Hp} (kin:K.In t.heap) (hns:t.heap.Ns mainGlobals mg) (hb:t.heap.Ns builtinsNs mb) (hbb:∀x:Str,x ≠ "__name__" → mb x=bootBuiltins x) (nolim:t.heap.NoLimit) (hg:t.gens=#[])
  (ha:t.heap.get? a=some { cls:=.type "list", data:=.seq vs.toArray }) (hr:Room k callerA) (F:∀base:Heap,K.In base→base.Ns mainGlobals mg→FnG P w K mg base k fa fd [x] (JbF K))
  (hbind:∀(s:Shared) (u:Value),BindsTo s fd ⟨[u],[]⟩ [(x,u)]) (hl:ns.length≤63) (hz:∀z∈ns,Builtin.Int.intBits z≤1048576)
  (hO:Only H) (hS:SqL K H a (ns.map V.int)) (hok:HOk P w H t.heap) (hA:∀b,H b≠none→b=a) (hK:H a≠none→K.lookup a=none) :
  codeAny (model P w) callerA (.call (.ref fa) ⟨[.ref a],[]⟩) (fun r t'=>r=.ok (.ret (.bool true))∧OldK t.heap t'.heap∧t'.os=t.os∧AllBare t'.gens) t:=by
 have only:∀{b:Addr} {u:HO},H b=some u→b=a:=fun {b u} e=>hA b fun z=>by rw[z]at e;cases e
 have notA:∀{b:Addr} {o:Obj} {es:Array DictEntry} {ep:Nat},t.heap.get? b=some o→o.data=.dict es ep→H b=none:=fun {b o es ep} e d=>by
  rcases hH:H b with _ | u
  ·rfl
  ·rw[only hH,ha]at e
   cases e
   exact nomatch (show Data.seq vs.toArray _=Data.dict es ep from d)
 have ns':∀{b:Addr} {m:Str→Option Value},t.heap.Ns b m→(hidT t.heap H).Ns b m:=fun ⟨o,es,ep,e,d,r⟩=>⟨o,es,ep,hidT_get e (notA e d),d,r⟩
 have kin':K.In (hidT t.heap H):=fun b o e=>hidT_get (kin b o e) (by
  rcases hH:H b with _ | u
  ·rfl
  ·have eb:=only hH
   rw[eb]at hH e
   rw[hK (by rw[hH];exact nofun)]at e
   cases e)
 have mo:Mod K mg (hidT t.heap H):=⟨kin',ns' hns,⟨mb,ns' hb,hbb⟩,nolim.elim fun mc h=>⟨mc,ns' h.1,h.2⟩⟩
 have e0:Env0 P w K mg (hidT t.heap H) callerA [] t H:=⟨rfl,mo,fun _ _ e=>of_hidT e,Nat.le_of_eq (hidT_size _ _),trivial,fun b hb=>(List.not_mem_nil (show b∈([]:List Addr) from hb)).elim,hok,.of_eq hg⟩
 refine codeAny_mono ((F _ kin' (ns' hns)).go callerA [] t H ⟨[.ref a],[]⟩ [.ref a] [.ref a] (fun v _=>v=.bl true) (fun _ _ _=>False) hr rfl e0 (hbind t (.ref a)) (.cons rfl .nil) ⟨a,ns,rfl,hS,hl,hz,fun _=>rfl⟩) fun out t' h=>?_
 match out,h with
 | .error e,h =>
  obtain⟨_,_,_,_,_,_,_,_,_,_,_,_,no⟩:=h
  exact no.elim
 | .ok .next,h=>exact h.elim
 | .ok .brk,h=>exact h.elim
 | .ok .cont,h=>exact h.elim
 | .ok (.ret u),h =>
  obtain⟨v,H',os,bare,un,hok',ru,q⟩:=h
  have ev:v=.bl true:=q
  subst ev
  obtain rfl:u=Value.bool true:=ru
  refine⟨rfl,OldK.of_keep fun b o e=>?_,os,bare⟩
  rcases hH:H b with _ | u
  ·exact un.keep b o e hH (fun z=>(List.not_mem_nil (show b∈([]:List Addr) from z)).elim) (by simp)
  ·rcases hO b with z | ⟨ob,xs,z⟩
   ·rw[hH]at z;cases z
   ·obtain⟨e1,_⟩:=hok b _ z
    obtain⟨e2,_⟩:=hok' b _ (un.frzs b ob _ z)
    rw[e]at e1
    cases e1
    exact e2
theorem call_g (kin:K.In t.heap) (hns:t.heap.Ns mainGlobals mg) (hb:t.heap.Ns builtinsNs mb) (hbb:∀x:Str,x ≠ "__name__" → mb x=bootBuiltins x) (nolim:t.heap.NoLimit) (hg:t.gens=#[])
  (ha:t.heap.get? a=some { cls:=.type "list", data:=.seq vs.toArray }) (hi:IntsAre vs ns) (hr:Room k callerA) (F:∀base:Heap,K.In base→base.Ns mainGlobals mg→FnG P w K mg base k fa fd [x] (JbF K))
  (hbind:∀(s:Shared) (u:Value),BindsTo s fd ⟨[u],[]⟩ [(x,u)]) (hl:ns.length≤63) (hz:∀z∈ns,Builtin.Int.intBits z≤1048576) :
  codeAny (model P w) callerA (.call (.ref fa) ⟨[.ref a],[]⟩) (fun r t'=>r=.ok (.ret (.bool true))∧OldK t.heap t'.heap∧t'.os=t.os∧AllBare t'.gens) t:=by
 have rv:=vals_ints hi
 have room:ns.length≤sizeLine:=Nat.le_trans hl (by decide)
 cases hk:K.lookup a with
 | some o =>
  have e:=kin a o hk
  rw[ha]at e
  cases e
  refine Jdb (H:=fun _=>none) kin hns hb hbb nolim hg ha hr F hbind hl hz (fun _=>.inl rfl) (.inr ⟨_,vs.toArray,_,hk,rfl,rfl,rfl,?_,by simpa using rv⟩) (fun b u z=>nomatch (show (none:Option HO)=some u from z)) (fun b z=>absurd rfl z) fun z=>absurd rfl z
  rw[List.size_toArray,hi.length];exact room
 | none =>
  let o0:Obj:={ cls:=.type "list", data:=.seq vs.toArray }
  let H0:Hp:=fun b=>if b=a then some (.frz o0 (.lst (ns.map V.int))) else none
  have yes:H0 a=some (.frz o0 (.lst (ns.map V.int))):=if_pos rfl
  have no:∀b,b≠a→H0 b=none:=fun b hb=>if_neg hb
  refine Jdb (H:=H0) kin hns hb hbb nolim hg ha hr F hbind hl hz (fun b=>?_) (.inl (.inr ⟨o0,yes⟩)) (fun b u z=>?_) (fun b z=>Classical.byContradiction fun hb=>z (no b hb)) fun _=>hk
  ·by_cases hb:b=a
   ·rw[hb];exact .inr ⟨_,_,yes⟩
   ·exact .inl (no b hb)
  ·by_cases hb:b=a
   ·rw[hb,yes]at z
    cases z
    rw[hb]
    exact⟨ha,by rw[List.length_map];exact room,vs,_,rv,ha⟩
   ·rw[no b hb]at z;cases z
end
end VS
namespace VS
open PySem L2 SeqAt PySem.Spec PyProof.Rows
theorem AOk.fs {C:Ctx} {H:Hp} {σ:L2.St} {Ms Rs:List Nat} {fs fs':FPs} {ownr:List Addr} (h:∀r∈Rs,∀a∈fs.getD r [],a∈fs'.getD r []):∀{avs vs fps},AOk C H σ Ms Rs fs ownr avs vs fps→AOk C H σ Ms Rs fs' ownr avs vs fps
 | [],_,_,x=>x
 | .ro d::as,vs,fps,⟨v,vs',fp,fps',e1,e2,r,i,x⟩=>⟨v,vs',fp,fps',e1,e2,r,fun a ha=>(i a ha).elim .inl fun ⟨r,hr,z⟩=>.inr ⟨r,hr,h r hr a z⟩,AOk.fs h x⟩
 | .ow d wb::as,vs,fps,⟨v,vs',fp,fps',e1,e2,r,i,x⟩=>⟨v,vs',fp,fps',e1,e2,r,i,AOk.fs h x⟩
end VS
namespace VS
open PySem L2 SeqAt PySem.Spec PyProof.Rows
def cFix (c:CE):CE:=fun env=>(c env).bind fun d env=>.ok d.fix env
structure Fz (S:List Addr) (H H':Hp):Prop where
 o:∀a,a∉S→H' a=H a
 i:∀a,a∈S→∃od u,H a=some u∧Mutb u∧H' a=some (.frz od u)
theorem Fz.mono {S:List Addr} {H H':Hp} (z:Fz S H H'):Mono H H':=by
 refine⟨?_,?_,fun a o k e=>?_⟩
 rotate_left 2
 ·by_cases ha:a∈S
  ·obtain⟨_,u,e1,mu,_⟩:=z.i a ha
   rw[e]at e1;cases e1;exact(k.nm mu).elim
  ·rw[z.o a ha];exact e
 ·intro a xs e
  by_cases ha:a∈S
  ·obtain⟨_,u,e1,mu,_⟩:=z.i a ha
   rw[e]at e1;cases e1;exact mu.elim
  ·rw[z.o a ha];exact e
 ·intro a o u e
  by_cases ha:a∈S
  ·obtain⟨_,u',e1,mu,_⟩:=z.i a ha
   rw[e]at e1;cases e1;exact mu.elim
  ·rw[z.o a ha];exact e
section
variable {C:Ctx} {H H':Hp} {S:List Addr}
theorem Jcf (z:Fz S H H') (lk:∀a∈C.Lk,∃ob u,H a=some (.frz ob u)) {g a u fp} (n:Nd C H g a u fp) (hs:∀b∈fp,b∈S):Nd C H' g.fix a u []:=by
 cases g with
 | m =>
  obtain⟨e,rfl⟩:=n
  obtain⟨od,u',e1,mu,e2⟩:=z.i a (hs a (by simp))
  rw[e]at e1;cases e1
  refine⟨⟨od,e2⟩,fun hl=>?_,rfl⟩
  obtain⟨ob,w,q⟩:=lk a hl
  rw[e]at q;cases q;exact mu
 | l=>obtain⟨h,e⟩:=n;exact⟨h,rfl⟩
 | f=>obtain⟨⟨o,e⟩,x,_⟩:=n;exact⟨⟨o,z.mono.z _ _ _ e⟩,x,rfl⟩
 | k=>obtain⟨⟨o,e⟩,_⟩:=n;exact⟨⟨o,z.mono.z _ _ _ e⟩,rfl⟩
mutual
theorem Rep.fixR (z:Fz S H H') (lk:∀a∈C.Lk,∃ob u,H a=some (.frz ob u)):∀{d:D} {v:V} {fp:List Addr},Rep C H d v fp→(∀b∈fp,b∈S)→Rep C H' d.fix v []
 | .non,v,fp,h,_=>⟨h.1,rfl⟩
 | .bl b,v,fp,h,_=>⟨h.1,rfl⟩
 | .int i,v,fp,h,_=>⟨h.1,rfl⟩
 | .str s,v,fp,h,_=>⟨h.1,rfl⟩
 | .ty s,v,fp,h,_=>⟨h.1,rfl⟩
 | .tup ds,v,fp,⟨a,vs,e,t,r⟩,hs=>⟨a,vs,e,Zq t z.mono,Reps.fixR z lk r hs⟩
 | .lst g ds,v,fp,⟨a,vs,f1,f2,e,n,r,q,e2⟩,hs=>⟨a,vs,[],[],e,Jcf z lk n (fun b hb=>hs b (by rw[e2];exact List.mem_append_left _ hb)),Reps.fixR z lk r (fun b hb=>hs b (by rw[e2];exact List.mem_append_right _ hb)),.inr rfl,rfl⟩
 | .dct g ks ds,v,fp,⟨a,vs,f1,f2,e,n,q,r,q2,e2⟩,hs=>⟨a,vs,[],[],e,Jcf z lk n (fun b hb=>hs b (by rw[e2];exact List.mem_append_left _ hb)),q,Reps.fixR z lk r (fun b hb=>hs b (by rw[e2];exact List.mem_append_right _ hb)),.inr rfl,rfl⟩
 | .obj g c ns ds,v,fp,⟨a,Ca,dx,fls,f1,f2,e,c1,n,q,r,q2,e2⟩,hs=>⟨a,Ca,dx,fls,[],[],e,c1,Jcf z lk n (fun b hb=>hs b (by rw[e2];exact List.mem_append_left _ hb)),q,Reps.fixR z lk r (fun b hb=>hs b (by rw[e2];exact List.mem_append_right _ hb)),.inr rfl,rfl⟩
 | .exc c ns ds,v,fp,⟨a,Ca,d,fls,e,c1,n,x,q,r,e2⟩,hs=>⟨a,Ca,d,fls,e,c1,z.mono.x _ _ trivial n,x.mono z.mono,q,Reps.keep r (fun b hb=>nomatch hb) z.mono,rfl⟩
theorem Reps.fixR (z:Fz S H H') (lk:∀a∈C.Lk,∃ob u,H a=some (.frz ob u)):∀{ds:List D} {vs:List V} {fp:List Addr},Reps C H ds vs fp→(∀b∈fp,b∈S)→Reps C H' (fixs ds) vs []
 | [],vs,fp,h,_=>⟨h.1,rfl⟩
 | d::ds,vs,fp,⟨v,vs',f1,f2,e,r,rs,e2⟩,hs=>⟨v,vs',[],[],e,Rep.fixR z lk r (fun b hb=>hs b (by rw[e2];exact List.mem_append_left _ hb)),Reps.fixR z lk rs (fun b hb=>hs b (by rw[e2];exact List.mem_append_right _ hb)),rfl⟩
end
theorem Good.fix {fs:FPs} {env:Env} {σ:L2.St} {tf fp:List Addr} (G:Good C fs env σ H (fp++tf)) (z:Fz fp H H'):Good C fs env σ H' tf∧∀M,Step M tf fs env H fs env H':=by
 have p:(fs.flatten++(fp++tf)).Perm (fp++(fs.flatten++tf)):=by
  rw[←List.append_assoc,←List.append_assoc];exact List.perm_append_comm.append_right _
 have nd:=p.nodup_iff.mp G.nd
 have apart:∀a∈fs.flatten++tf,a∉fp:=fun a ha hb=>(List.nodup_append.mp nd).2.2 a hb a ha rfl
 have same:∀a∈fs.flatten++tf,H' a=H a:=fun a ha=>z.o a (apart a ha)
 have m:=z.mono
 have sub:∀a∈fs.flatten++tf,a∈fs.flatten++(fp++tf):=fun a ha=>by
  rcases List.mem_append.mp ha with q | q
  ·exact List.mem_append_left _ q
  ·exact List.mem_append_right _ (List.mem_append_right _ q)
 refine⟨⟨G.le,G.lf,fun i d e=>?_,(List.nodup_append.mp nd).2.1,fun a ha=>G.own a (sub a ha),fun a ha=>?_,fun a o e na=>?_,fun a ha=>?_⟩,fun M=>⟨fun a ha=>same a (List.mem_append_right _ ha),fun _ _=>rfl,fun _ _=>rfl,fun i _ a ha=>same a (List.mem_append_left _ (Yo ha)),m⟩⟩
 ·obtain⟨v,e1,r⟩:=G.rep i d e
  exact⟨v,e1,r.keep (fun a ha=>same a (List.mem_append_left _ (Yo ha))) m⟩
 ·rw[same a ha];exact G.trk a (sub a ha)
 ·have nf:a∉fp:=fun ha=>by
   rcases G.own a (List.mem_append_right _ (List.mem_append_left _ ha)) with q | q
   ·exact na q
   ·rw[q]at e;cases e
  rw[z.o a nf];exact G.fr a o e na
 ·obtain⟨ob,u,e⟩:=G.lk a ha
  exact⟨ob,u,m.z _ _ _ e⟩
end
def FzQ:List Addr→Hp→(Hp→Prop)→Prop
 | [],H,Q=>Q H
 | a::as,H,Q=>∃u,H a=some u∧Mut (some u)∧∀od,FzQ as (L2.upd H a (.frz od u)) Q
theorem mut_of {u:HO} (h:Mutb u):Mut (some u):=by cases u<;>first | trivial | exact h.elim
theorem Jda:∀{as:List Addr} {H:Hp} {Q:Hp→Prop},as.Nodup→(∀a∈as,∃o,H a=some o∧Mutb o)→(∀H',Fz as H H'→Q H')→FzQ as H Q
 | [],H,Q,_,_,h=>h H ⟨fun _ _=>rfl,fun _ z=>nomatch z⟩
 | a::as,H,Q,nd,tk,h=>by
  obtain⟨na,nd'⟩:=List.nodup_cons.mp nd
  obtain⟨u,e,mu⟩:=tk a (by simp)
  refine⟨u,e,mut_of mu,fun od=>Jda nd' (fun b hb=>?_) fun H' z=>h H' ⟨fun b hb=>?_,fun b hb=>?_⟩⟩
  ·have:b≠a:=fun q=>na (q ▸ hb)
   obtain⟨o,e2,m2⟩:=tk b (by simp[hb])
   exact⟨o,by rw[upd_ne this];exact e2,m2⟩
  ·simp only[List.mem_cons,not_or]at hb
   rw[z.o b hb.2,upd_ne hb.1]
  ·rcases List.mem_cons.mp hb with q | q
   ·subst q
    exact⟨od,u,e,mu,by rw[z.o b na];exact upd_same⟩
   ·have:b≠a:=fun r=>na (r ▸ q)
    obtain⟨od2,u2,e2,m2,e3⟩:=z.i b q
    rw[upd_ne this]at e2
    exact⟨od2,u2,e2,m2,e3⟩
section
variable {X:Cx} {W:WX} {M:List Nat} {e:Expr} {c:CE}
theorem Jch {pins:List (Addr × Obj)} {σ:L2.St} {s:Shared}:∀{as:List Addr} {H:Hp} {Q:Hp→Prop},L2.Inv X pins σ H s→FzQ as H Q→∃H',L2.Inv X pins σ H' s∧Q H'
 | [],H,Q,I,h=>⟨H,I,h⟩
 | a::as,H,Q,I,⟨u,e,mu,h⟩=>by
  obtain⟨od,I1⟩:=I.lock e mu
  exact Jch I1 (h od)
theorem pe_fix {t:TE} (h:PE X e t):PE X e (fun σ H Q=>t σ H fun v H1=>∃as,FzQ as H1 (Q v)):=by
 refine⟨fun pins s σ H Q I hw=>thn (h.run pins s σ H _ I hw) fun u s1 ⟨v,H1,I1,r,as,q⟩=>?_⟩
 obtain⟨H2,I2,q2⟩:=Jch I1 q
 exact⟨v,H2,I2,r,q2⟩
theorem JcL (h:SO X W M e c):SO X W M e (cFix c):=by
 obtain⟨t,p,q⟩:=h.go
 refine⟨_,pe_fix p,fun C fs env σ H tf Q hC G po=>?_⟩
 show t σ H fun v H1=>_
 refine q C fs env σ H tf _ hC G ?_
 unfold cFix at po
 cases e1:c env with
 | err=>rw[e1]at po;exact po
 | ex x env'=>rw[e1]at po;exact po
 | ok d env1 =>
  rw[e1]at po
  intro v fs1 H1 fp G1 s1 r
  have nd:fp.Nodup:=(List.nodup_append.mp (List.nodup_append.mp G1.nd).2.1).1
  refine⟨fp,Jda nd (fun a ha=>r.trk a ha) fun H2 z=>?_⟩
  obtain⟨G2,s2⟩:=G1.fix z
  have st:Step M tf fs env H fs1 env1 H2:=by
   have:=s1.trans (s2 [])
   simpa using this
  exact po v fs1 H2 [] (by simpa using G2) st (r.fixR z G1.lk fun b hb=>hb)
end
@[simp] theorem e_fix (c:CE) (env:Env):cFix c env=(c env).bind fun d env=>.ok d.fix env:=(rfl)
@[simp] theorem fixs_nil:fixs []=[]:=(rfl)
@[simp] theorem fixs_cons (d:D) (ds:List D):fixs (d::ds)=d.fix::fixs ds:=(rfl)
@[simp] theorem fix_lstm (ds:List D):(D.lst .m ds).fix=.lst .f (fixs ds):=(rfl)
@[simp] theorem fix_lstf (ds:List D):(D.lst .f ds).fix=.lst .f (fixs ds):=(rfl)
@[simp] theorem fix_tup (ds:List D):(D.tup ds).fix=.tup (fixs ds):=(rfl)
@[simp] theorem fix_int (i:Int):(D.int i).fix=.int i:=(rfl)
@[simp] theorem fix_str (i:Str):(D.str i).fix=.str i:=(rfl)
@[simp] theorem fix_bl (i:Bool):(D.bl i).fix=.bl i:=(rfl)
@[simp] theorem fix_non:D.non.fix=.non:=(rfl)
@[simp] theorem fix_dctm (ks:List Key) (ds:List D):(D.dct .m ks ds).fix=.dct .f ks (fixs ds):=(rfl)
theorem Jav {α:Type} {f:α→D} (h:∀x,(f x).fix=f x):∀xs:List α,fixs (xs.map f)=xs.map f
 | []=>rfl
 | x::xs=>by rw[List.map_cons,fixs_cons,h,Jav h xs]
end VS
namespace VS
open PySem L2 SeqAt PySem.Spec PyProof.Rows
section
variable {α β:Type} (env:Env) (i j:Nat) (c ca cb cc cd:CE) (cs:CA) (ct:CT) (ta tb:CT) (d:D) (p q:D→D→Option D) (p1:D→Option D) (pl:List D→Option D) (s1 s2:CS) (g:D→Env→Option Env) (cn f m:Str) (cl:CL) (cr:Env→R (List AV)) (φ:List D→FR)
@[simp] theorem e_lidx:lIdx cl cb env=(cl env).bind fun dF env=>(cb env).bind fun y env=>match kidD dF.1 y with
 | some (x,G)=>.ok (x,dF.2∘G) env
 | none=>.err:=(rfl)
@[simp] theorem e_pairs0:Ue [] env=.ok [] env:=(rfl)
@[simp] theorem e_pairs1 (r:List (CE × CE)):Ue ((ca,cb)::r) env=(ca env).bind fun dk env=>(cb env).bind fun dv env=>(Ue r env).bind fun ps env=>match dk.key with
  | some ky=>.ok ((ky,dv)::ps) env
  | none=>.err:=(rfl)
@[simp] theorem e_disp (cps:List (CE × CE)):QE cps env=(Ue cps env).bind fun ps env=>if ps.length≤15∧(ps.map (·.1)).Nodup then .ok (.dct .m (ps.map (·.1)) (ps.map (·.2))) env else if ps.length≤15∧imms (ps.map (·.2))=true then .ok (.dct .m (mkD ps).1 (mkD ps).2) env else .err:=(rfl)
@[simp] theorem e_get2:Ja1 cd cb cc env=(cd env).bind fun d env=>if QH d then ((cb env).bind fun y env=>(cc env).bind fun x env=>R.of (Qe d y x) env) else .err:=(rfl)
@[simp] theorem e_gsub (x:D):UH i cl cb x env=match cl env with
 | .ok dF env1=>match cb env1 with
  | .ok y env2=>(stD dF.1 y x).map fun d'=>env2.set i (some (dF.2 d'))
  | _=>none
 | _=>none:=(rfl)
@[simp] theorem e_while (μ:Env→Nat):Jbv μ ct s1 env=Uh ct s1 (μ env) env:=(rfl)
@[simp] theorem e_isd (g:Fl) (ks:List Key) (ds:List D):QH (.dct g ks ds)=true:=(rfl)
@[simp] theorem e_keyI (i:Int):(D.int i).key=some (.inl i):=(rfl)
@[simp] theorem e_keyS (s:Str):(D.str s).key=some (.inr s):=(rfl)
@[simp] theorem e_nol7 (ks:List Key) (ds:List D):(D.dct .m ks ds).nol=nols ds:=(rfl)
@[simp] theorem e_nol8 (c:Str) (ns:List Str) (ds:List D):(D.obj .m c ns ds).nol=nols ds:=(rfl)
@[simp] theorem e_nol9 (ds:List D):(D.lst .f ds).nol=nols ds:=(rfl)
@[simp] theorem e_imm7 (g:Fl) (ks:List Key) (ds:List D):(D.dct g ks ds).imm=((g == .l || g == .f) && imms ds):=(rfl)
@[simp] theorem e_imm8 (g:Fl) (c:Str) (ns:List Str) (ds:List D):(D.obj g c ns ds).imm=((g == .l || g == .f) && imms ds):=(rfl)
@[simp] theorem e_lend8 (ks:List Key) (ds:List D):(D.dct .m ks ds).lend=.dct .l ks (lends ds):=(rfl)
@[simp] theorem e_lend9 (ks:List Key) (ds:List D):(D.dct .l ks ds).lend=.dct .l ks (lends ds):=(rfl)
@[simp] theorem e_lend10 (c:Str) (ns:List Str) (ds:List D):(D.obj .m c ns ds).lend=.obj .l c ns (lends ds):=(rfl)
@[simp] theorem e_lend11 (c:Str) (ns:List Str) (ds:List D):(D.obj .l c ns ds).lend=.obj .l c ns (lends ds):=(rfl)
@[simp] theorem fl1:(Fl.m == Fl.l)=false:=(rfl)
@[simp] theorem fl2:(Fl.m == Fl.f)=false:=(rfl)
@[simp] theorem fl3:(Fl.l == Fl.l)=true:=(rfl)
@[simp] theorem fl4:(Fl.l == Fl.f)=false:=(rfl)
@[simp] theorem fl5:(Fl.f == Fl.f)=true:=(rfl)
@[simp] theorem fl6:(Fl.f == Fl.l)=false:=(rfl)
@[simp] theorem e_ltG (i j:Int):pLtG (.int i) (.int j)=some (.bl (decide (i < j))):=(rfl)
@[simp] theorem e_gtG (i j:Int):pGtG (.int i) (.int j)=some (.bl (decide (j < i))):=(rfl)
@[simp] theorem e_geG (i j:Int):pGeG (.int i) (.int j)=some (.bl (decide (j≤i))):=(rfl)
@[simp] theorem e_minG (i j:Int):JaY [.int i,.int j]=some (.int (if j < i then j else i)):=(rfl)
@[simp] theorem e_listG1 (g:Fl) (ds:List D):Yi [.lst g ds]=if imms ds then some (.lst .m ds) else none:=(rfl)
@[simp] theorem e_listG2 (ds:List D):Yi [.tup ds]=if imms ds then some (.lst .m ds) else none:=(rfl)
@[simp] theorem e_listG3 (g:Fl) (ks:List Key) (ds:List D):Yi [.dct g ks ds]=some (.lst .m (ks.map keyD)):=(rfl)
@[simp] theorem e_divmod (i j:Int):Qh [.int i,.int j]=if 0 < j∧j < 2 ^ 64 then some (.tup [.int (i / j),.int (i % j)]) else none:=(rfl)
@[simp] theorem e_len3 (g:Fl) (ks:List Key) (ds:List D):pLen [.dct g ks ds]=some (.int ks.length):=(rfl)
@[simp] theorem e_len4 (z:Str):pLen [.str z]=if z.length≤sizeLine then some (.int z.length) else none:=(rfl)
@[simp] theorem e_ix3 (g:Fl) (ks:List Key) (ds:List D) (y:D):ixD (.dct g ks ds) y=y.key.bind fun k=>Yb ks ds k:=by
 cases y<;>rfl
@[simp] theorem JcZ (g:Fl) (ks:List Key) (ds:List D) (y x:D):Qe (.dct g ks ds) y x=y.key.map fun k=>(Yb ks ds k).getD x:=(rfl)
@[simp] theorem Qj {α:Type} {f:α→D} (h:∀x,(f x).imm=true):∀xs:List α,imms (xs.map f)=true
 | []=>rfl
 | x::xs=>by simp[h x,Qj h xs]
@[simp] theorem lends_map {α:Type} {f:α→D} (h:∀x,(f x).lend=f x):∀xs:List α,lends (xs.map f)=xs.map f
 | []=>rfl
 | x::xs=>by simp[h x,lends_map h xs]
@[simp] theorem Jac {α:Type} {f:α→D} (h:∀x,(f x).nol=true):∀xs:List α,nols (xs.map f)=true
 | []=>rfl
 | x::xs=>by simp[h x,Jac h xs]
@[simp] theorem imms_app:∀(xs ys:List D),imms (xs++ys)=(imms xs && imms ys)
 | [],ys=>by simp
 | x::xs,ys=>by simp[imms_app xs ys,Bool.and_assoc]
@[simp] theorem nols_app:∀(xs ys:List D),nols (xs++ys)=(nols xs && nols ys)
 | [],ys=>by simp
 | x::xs,ys=>by simp[nols_app xs ys,Bool.and_assoc]
@[simp] theorem lends_app:∀(xs ys:List D),lends (xs++ys)=lends xs++lends ys
 | [],ys=>by simp
 | x::xs,ys=>by simp[lends_app xs ys]
end
section
variable {κ:Type} [DecidableEq κ] (kf:κ→Key) (hk:∀a b,kf a=kf b→a=b)
def up1 (g:κ→D) (n:κ) (x:D):κ→D:=fun m=>if m=n then x else g m
include hk
theorem Jb4:∀(ns:List κ) (g:κ→D) (n:κ),Yb (ns.map kf) (ns.map g) (kf n)=if n∈ns then some (g n) else none
 | [],g,n=>by simp[Yb]
 | m::ns,g,n=>by
  simp only[List.map_cons,Yb]
  by_cases h:m=n
  ·subst h;simp
  ·rw[if_neg (fun z=>h (hk _ _ z)),Jb4 ns g n]
   have:n≠m:=fun z=>h z.symm
   simp[this]
theorem QV:∀(ns:List κ) (n:κ),idxK (ns.map kf) (kf n)=if n∈ns then some (ns.findIdx (· == n)) else none
 | [],n=>by simp[idxK]
 | m::ns,n=>by
  simp only[List.map_cons,idxK]
  by_cases h:m=n
  ·subst h;simp[List.findIdx_cons]
  ·rw[if_neg (fun z=>h (hk _ _ z)),QV ns n]
   have h2:n≠m:=fun z=>h z.symm
   by_cases h3:n∈ns
   ·have hb:(m == n)=false:=by simpa using h
    simp[h3,List.findIdx_cons,hb]
   ·simp[h3,h2]
omit hk in
theorem Jak:∀(ns:List κ) (g:κ→D) (n:κ) (x:D),ns.Nodup→n∈ns→(ns.map g).set (ns.findIdx (· == n)) x=ns.map (up1 g n x)
 | [],g,n,x,_,h=>by cases h
 | m::ns,g,n,x,nd,h=>by
  have nd':=List.nodup_cons.mp nd
  by_cases e:m=n
  ·subst e
   have:ns.map g=ns.map (up1 g m x):=List.map_congr_left fun y hy=>by
    have:y≠m:=fun z=>nd'.1 (z ▸ hy)
    simp[up1,this]
   simp[List.findIdx_cons,up1,this]
  ·have h2:n∈ns:=(List.mem_cons.mp h).resolve_left fun z=>e z.symm
   have ih:=Jak ns g n x nd'.2 h2
   have hb:(m == n)=false:=by simpa using e
   simp[List.findIdx_cons,hb,ih,up1,e]
end
section
variable {ns:List Str} {g:Str→D} {n:Str} {x:D} {fl:Fl}
theorem Jaa:∀a b:Str,(Sum.inr a:Key)=Sum.inr b→a=b:=fun a b h=>by cases h;rfl
@[simp] theorem Jbt:Yb (ns.map Sum.inr) (ns.map g) (Sum.inr n)=if n∈ns then some (g n) else none:=Jb4 Sum.inr Jaa ns g n
end
end VS
namespace VS
open PySem
abbrev J:=Str × Str × Int
inductive Reach (js:List J):Str→Str→Int→Prop
 | refl (a:Str):Reach js a a 0
 | fwd {a b c:Str} {o s:Int}:Reach js a b o→(b,c,s)∈js→Reach js a c (o+s)
 | bwd {a b c:Str} {o s:Int}:Reach js a b o→(c,b,s)∈js→Reach js a c (o - s)
def Conn (js:List J) (a b:Str):Prop:=∃o,Reach js a b o
section
variable {js js':List J} {a b c:Str} {o o' s:Int}
theorem Reach.trans (h:Reach js a b o) (h':Reach js b c o'):Reach js a c (o+o'):=by
 induction h' with
 | refl=>simpa using h
 | fwd r m ih=>have:=Reach.fwd (ih) m;rwa[Int.add_assoc]at this
 | bwd r m ih=>have:=Reach.bwd (ih) m;rwa[Int.add_sub_assoc]at this
theorem Reach.symm (h:Reach js a b o):Reach js b a (-o):=by
 induction h with
 | refl=>exact .refl _
 | @fwd b c o s r m ih =>
  have:=(Reach.bwd (.refl c) m).trans ih
  have e:(0:Int) - s+-o=-(o+s):=by omega
  rwa[e]at this
 | @bwd b c o s r m ih =>
  have:=(Reach.fwd (.refl c) m).trans ih
  have e:(0:Int)+s+-o=-(o - s):=by omega
  rwa[e]at this
theorem Reach.mono (h:Reach js a b o) (hm:∀j∈js,j∈js'):Reach js' a b o:=by
 induction h with
 | refl=>exact .refl _
 | fwd r m ih=>exact .fwd ih (hm _ m)
 | bwd r m ih=>exact .bwd ih (hm _ m)
theorem Reach.one (m:(a,b,s)∈js):Reach js a b s:=by have:=Reach.fwd (.refl a) m;simpa using this
theorem Conn.refl (a:Str):Conn js a a:=⟨0,.refl a⟩
theorem Conn.symm (h:Conn js a b):Conn js b a:=h.elim fun o r=>⟨-o,r.symm⟩
theorem Conn.trans (h:Conn js a b) (h':Conn js b c):Conn js a c:=h.elim fun o r=>h'.elim fun o' r'=>⟨o+o',r.trans r'⟩
theorem Conn.mono (h:Conn js a b) (hm:∀j∈js,j∈js'):Conn js' a b:=h.elim fun o r=>⟨o,r.mono hm⟩
theorem Qq {x y:Str}:Conn (js++[(a,b,s)]) x y↔Conn js x y∨(Conn js x a∧Conn js b y)∨(Conn js x b∧Conn js a y):=by
 constructor
 ·rintro ⟨o,r⟩
  induction r with
  | refl=>exact .inl (.refl _)
  | @fwd p q o s' r m ih =>
   rcases List.mem_append.mp m with m | m
   ·have h1:Conn js p q:=⟨_,.one m⟩
    rcases ih with h | ⟨h,h'⟩ | ⟨h,h'⟩
    ·exact .inl (h.trans h1)
    ·exact .inr (.inl ⟨h,h'.trans h1⟩)
    ·exact .inr (.inr ⟨h,h'.trans h1⟩)
   ·simp at m
    obtain⟨rfl,rfl,rfl⟩:=m
    rcases ih with h | ⟨h,h'⟩ | ⟨h,h'⟩
    ·exact .inr (.inl ⟨h,.refl _⟩)
    ·exact .inr (.inl ⟨h,.refl _⟩)
    ·exact .inl h
  | @bwd p q o s' r m ih =>
   rcases List.mem_append.mp m with m | m
   ·have h1:Conn js p q:=Conn.symm ⟨_,.one m⟩
    rcases ih with h | ⟨h,h'⟩ | ⟨h,h'⟩
    ·exact .inl (h.trans h1)
    ·exact .inr (.inl ⟨h,h'.trans h1⟩)
    ·exact .inr (.inr ⟨h,h'.trans h1⟩)
   ·simp at m
    obtain⟨rfl,rfl,rfl⟩:=m
    rcases ih with h | ⟨h,h'⟩ | ⟨h,h'⟩
    ·exact .inr (.inr ⟨h,.refl _⟩)
    ·exact .inl h
    ·exact .inr (.inr ⟨h,.refl _⟩)
 ·have hm:∀j∈js,j∈js++[(a,b,s)]:=fun j h=>List.mem_append_left _ h
  have h1:Conn (js++[(a,b,s)]) a b:=⟨s,.one (by simp)⟩
  rintro (h | ⟨h,h'⟩ | ⟨h,h'⟩)
  ·exact h.mono hm
  ·exact(h.mono hm).trans (h1.trans (h'.mono hm))
  ·exact(h.mono hm).trans (h1.symm.trans (h'.mono hm))
def JcP (ns:List Str) (js:List J):Prop:=∀a b s,(a,b,s)∈js→a∈ns∧b∈ns
theorem Reach.mem {ns:List Str} (w:JcP ns js) (h:Reach js a b o) (ha:a∈ns):b∈ns:=by
 induction h with
 | refl=>exact ha
 | fwd r m ih=>exact(w _ _ _ m).2
 | bwd r m ih=>exact(w _ _ _ m).1
theorem Conn.mem {ns:List Str} (w:JcP ns js) (h:Conn js a b) (ha:a∈ns):b∈ns:=h.elim fun _ r=>r.mem w ha
end
end VS
namespace VS
open PySem L2 SeqAt PySem.Spec PyProof.Rows
theorem JbD {ds:List D} {n:Int} (h:0≤n):cutD ds none (some n)=ds.take n.toNat:=by
 obtain⟨k,rfl⟩:=Int.eq_ofNat_of_zero_le h
 unfold cutD
 rw[HT.sIx_none,HT.sIx_nat]
 simp only[Int.toNat_natCast,List.drop_zero,Nat.sub_zero]
 by_cases hl:k≤ds.length
 ·rw[Nat.min_eq_left hl]
 ·rw[Nat.min_eq_right (by omega),List.take_of_length_le (Nat.le_refl _),List.take_of_length_le (by omega)]
theorem cut_drop {ds:List D} {n:Int} (h:0≤n):cutD ds (some n) none=ds.drop n.toNat:=by
 obtain⟨k,rfl⟩:=Int.eq_ofNat_of_zero_le h
 unfold cutD
 rw[HT.sIx_none,HT.sIx_nat]
 simp only[Int.toNat_natCast]
 by_cases hl:k≤ds.length
 ·rw[Nat.min_eq_left hl,List.take_of_length_le (by simp)]
 ·rw[Nat.min_eq_right (by omega),List.drop_of_length_le (Nat.le_refl _),List.drop_of_length_le (by omega)];simp
theorem Jbj {α:Type} {f:α→D} {xs:List α} {r:Int} (h0:0≤r) (h1:r < xs.length):∃(x:α),x∈xs∧xs[r.toNat]?=some x∧atI (xs.map f) r=some (f x):=by
 have hn:r.toNat < xs.length:=by omega
 have e:r=((r.toNat:Nat):Int):=by omega
 have e2:=Za (xs:=xs.map f) (k:=r.toNat) (by simpa using hn)
 rw[←e]at e2
 exact⟨xs[r.toNat],List.getElem_mem hn,by simp[hn],by rw[e2];simp[hn]⟩
theorem Jbw (s:Str):pyO (.str s)=.str s:=rfl
theorem ZV:∀ns:List Str,pys (ns.map D.str)=some (ns.map PyData.str)
 | []=>rfl
 | n::ns=>by simp[pys,D.py,ZV ns]
theorem sortOk_strs {ns:List Str} (h:ns.length≤1000):UR (ns.map D.str)=true:=by
 unfold UR
 simp only[Bool.and_eq_true]
 refine⟨⟨⟨⟨⟨by rw[ZV];rfl,by simp⟩,?_⟩,?_⟩,?_⟩,by simpa using Ye h⟩
 ·simp[JaD,Jbw,PySem.W.alike]
 ·simp[Zx,Jbw]
 ·simp[ZY,Jbw,PyData.depth]
def leS (a b:Str):Bool:=leD (.str a) (.str b)
def Yf (ns:List Str):List Str:=ns.mergeSort leS
theorem YV (ns:List Str):(Yf ns).Perm ns:=List.mergeSort_perm _ _
theorem sortG_strs {g:Fl} {ns:List Str} (h:ns.length≤1000):Yn [.lst g (ns.map D.str)]=some (.lst .m ((Yf ns).map D.str)):=by
 unfold Yn
 simp only[Jc0,Option.bind_some,sortOk_strs h,if_true]
 unfold Yf
 rw[List.map_mergeSort (f:=D.str) (r:=leS) (s:=leD) fun a _ b _=>rfl]
theorem wh_true {ct:CT} {body:CS} {n:Nat} {env env1 env2:Env} (h1:ct env=.ok true env1) (h2:body env1=.nx env2):Uh ct body (n+1) env=Uh ct body n env2:=by simp[Uh,h1,h2]
theorem wh_false {ct:CT} {body:CS} {n:Nat} {env env1:Env} (h1:ct env=.ok false env1):Uh ct body (n+1) env=.nx env1:=by simp[Uh,h1]
end VS
namespace VS
open PySem L2 SeqAt PySem.Spec PyProof.Rows
theorem ZG {n:Nat} (h:n≤1000000):n < sizeLine :=
 have e:sizeLine=16777216:=by decide +kernel
 by omega
theorem sz_le {n:Nat} (h:n≤1000000):n≤sizeLine:=Nat.le_of_lt (ZG h)
theorem UY {α:Type} {f:α→D} {g:D→Env→Option Env} {body:CS} (P:List α→Env→Prop) (h:∀x xs env,P (x::xs) env→∃env1 env2,g (f x) env=some env1∧body env1=.nx env2∧P xs env2):∀(xs:List α) (env:Env),P xs env→∃env',YF g body (xs.map f) env=.nx env'∧P [] env'
 | [],env,h0=>⟨env,rfl,h0⟩
 | x::xs,env,h0=>by
  obtain⟨env1,env2,h1,h2,h3⟩:=h x xs env h0
  obtain⟨env',k1,k2⟩:=UY P h xs env2 h3
  exact⟨env',by rw[List.map_cons,Jcb h1 h2];exact k1,k2⟩
theorem Jb9 {ct:CT} {body:CS} (P:Nat→Env→Prop) (Q:Env→Prop) (h:∀k env,P k env→(∃env1,ct env=.ok false env1∧Q env1)∨(∃k' env1 env2,k=k'+1∧ct env=.ok true env1∧body env1=.nx env2∧P k' env2)):∀(k n:Nat) (env:Env),k < n→P k env→∃env',Uh ct body n env=.nx env'∧Q env'
 | k,0,env,hn,_=>absurd hn (by omega)
 | k,n+1,env,hn,h0=>by
  rcases h k env h0 with ⟨env1,h1,h2⟩ | ⟨k',env1,env2,rfl,h1,h2,h3⟩
  ·exact⟨env1,wh_false h1,h2⟩
  ·obtain⟨env',k1,k2⟩:=Jb9 P Q h k' n env2 (by omega) h3
   exact⟨env',by rw[wh_true h1 h2];exact k1,k2⟩
section
variable {κ:Type} [DecidableEq κ] (kf:κ→Key) (hk:∀a b,kf a=kf b→a=b)
include hk
end
end VS
namespace VS
open PySem PySem.W L2 SeqAt PySem.Spec PyProof.Rows
def Jde (K:PySem.W.Frag):V→List V→Hp→VK→Prop:=fun x xs H Q=>∃(d a:Addr) (kvs:List (Key × V)) (ps:List Addr) (more:List (Key × V)),x=V.ref d∧xs=[V.ref a]∧H d=some (.dK kvs)∧SqL K H a (ps.map V.ref)∧Paired (fun p kv=>SqT K H p [kV kv.1,kv.2]) ps more∧kvs.length+more.length≤sizeLine∧Q .non (upd H d (.dK (mergeK kvs more)))
section
variable {X:Cx}
theorem QN {α β:Type} {R:Nat→α→β→Prop}:∀{xs:List α} (k:Nat),(∀j x,xs[j]?=some x→∃y,R (k+j) x y)→∃ys:List β,ys.length=xs.length∧∀j x,xs[j]?=some x→∃y,ys[j]?=some y∧R (k+j) x y
 | [],k,_=>⟨[],rfl,fun j x h=>by simp at h⟩
 | x::xs,k,h=>by
  obtain⟨y,hy⟩:=h 0 x rfl
  obtain⟨ys,h1,h2⟩:=QN (xs:=xs) (k+1) fun j z hz=>by
   obtain⟨y,e⟩:=h (j+1) z (by simpa using hz)
   exact⟨y,by rw[show k+1+j=k+(j+1) by omega];exact e⟩
  refine⟨y::ys,by simp[h1],fun j z hz=>?_⟩
  cases j with
  | zero=>simp at hz;subst hz;exact⟨y,rfl,hy⟩
  | succ j =>
   obtain⟨y',e1,e2⟩:=h2 j z (by simpa using hz)
   exact⟨y',by simpa using e1,by rw[show k+(j+1)=k+1+j by omega];exact e2⟩
theorem mt_updL (hcalm:X.calm=true):MtR X "dict.update" (Jde X.K):=by
 intro pins s σ H x xs v us Q I rx rxs h
 obtain⟨d,a,kvs,ps,more,rfl,rfl,hd,hq,hp,hz,q⟩:=h
 obtain rfl:v=Value.ref d:=rx
 obtain⟨u,rfl,ru⟩:=vals1 rxs
 obtain rfl:u=Value.ref a:=ru
 obtain⟨z1,lo1,vs,rel,dd⟩:=dk_of I.hok hd
 have l1:vs.length=kvs.length:=(KV.length rel).symm
 obtain⟨its,rv,pl,hzl⟩:=I.list hq
 have ei:=refs_at rv
 subst ei
 obtain⟨prs,relp,hl,hpr⟩:=pairs_of I hp
 have lm:prs.length=more.length:=relp.length.symm
 obtain⟨o,n,ho,hc,hdi,hdat⟩:=pl
 obtain⟨ks,lk,hks⟩:=QN (R:=fun j (q:Key × Value) (u:Value)=>∃b,ps[j]?=some b∧(mixKind X.prog X.w).is q.1 u=true∧s.heap.IsTuple b #[u,q.2]) (xs:=prs) 0 fun j q' e=>by
  obtain⟨b,u,e1,e2,e3⟩:=hpr j q' e
  exact⟨u,b,by simpa using e1,e3,e2⟩
 let pv:List (Value × Value):=ks.zip (prs.map (·.2))
 have pvl:pv.length=prs.length:=by simp[pv,lk]
 have pvg:∀j k w,pv[j]?=some (k,w)→∃(q:Key × Value) (b:Addr),prs[j]?=some q∧q.2=w∧ps[j]?=some b∧(mixKind X.prog X.w).is q.1 k=true∧s.heap.IsTuple b #[k,w]:=fun j k w e=>by
  rw[List.getElem?_zip_eq_some]at e
  obtain⟨e1,e2⟩:=e
  rw[List.getElem?_map]at e2
  obtain⟨q,hq',rfl⟩:=Option.map_eq_some_iff.mp e2
  obtain⟨u,e3,b,e4,e5,e6⟩:=hks j q hq'
  rw[e1]at e3;cases e3
  rw[Nat.zero_add]at e4
  exact⟨q,b,hq',rfl,e4,e5,e6⟩
 have hTs:∀j b,ps[j]?=some b→ps.getD j 0=b:=fun j b e=>by rw[List.getD_eq_getElem?_getD,e];rfl
 have ok:(fun h=>PlainSeq "list" h a (ps.map Value.ref).toArray∧PairItems h (ps.map Value.ref).toArray (fun j=>ps.getD j 0) pv) s.heap:=by
  refine⟨⟨o,n,ho,hc,hdi,hdat⟩,by simp[pvl,hl],fun j k w e=>?_⟩
  obtain⟨q,b,_,_,e4,_,e6⟩:=pvg j k w e
  show (List.map Value.ref ps).toArray[j]?=some (Value.ref (ps.getD j 0))∧PairAt s.heap (ps.getD j 0) k w
  rw[hTs j b e4]
  exact⟨by simp[e4],.inl e6⟩
 have hdf:d∉a::(List.range pv.length).map fun j=>ps.getD j 0:=fun hm=>by
  have hdd:=dd
  obtain⟨ep,od,es,hod,ex,_⟩:=hdd.dictAt
  rcases List.mem_cons.mp hm with e | e
  ·subst e
   rw[ho]at hod;cases hod
   rw[ex.1]at hc;exact absurd hc (by decide)
  ·obtain⟨j,hj,e⟩:=List.mem_map.mp e
   have hj:=List.mem_range.mp hj
   obtain⟨⟨k,w⟩,hkw⟩:∃p,pv[j]?=some p:=⟨pv[j],List.getElem?_eq_getElem hj⟩
   obtain⟨q,b,_,_,e4,_,ot,hot,hct,_⟩:=pvg j k w hkw
   have e:ps.getD j 0=d:=e
   rw[hTs j b e4]at e
   subst e
   rw[hot]at hod;cases hod
   rw[ex.1]at hct;exact absurd hct (by decide)
 refine call_update_pairs (knd:=mixKind X.prog X.w) (acc:=vs) (kvs:=prs) (PairArg.list a (ps.map Value.ref).toArray (fun j=>ps.getD j 0) pv) (I.ok.hd hcalm) ok hdf ⟨by rw[pvl],fun i key v hrel=>?_⟩ dd (by rw[pvl,lm,l1];exact hz) fun h' tk hd' hk=>?_
 ·obtain⟨q,b,e1,e2,_,e5,_⟩:=pvg i key v hrel
  exact⟨q.1,by rw[e1,←e2],e5⟩
 ·have rm:=KV.merge relp rel
  have hlen:(mergeK kvs more).length≤sizeLine:=by
   have:=merged_length_le vs prs
   rw[KV.length rm];omega
  refine⟨.non,upd H d (.dK (mergeK kvs more)),I.write (t':=tk) ?_ (.inl rfl) (fun b ob hb e=>hk b ob hb (by simp) e) ?_ (show ObjOk X.prog X.w _ _ _ (.dK (mergeK kvs more)) from ⟨hlen,lo1,_,rm,hd'⟩),rfl,q⟩
  ·rw[hd];trivial
  ·obtain⟨ep,dat⟩:=hd'.dictAt
   obtain⟨ob,es,hob,_⟩:=dat
   exact⟨ob,hob⟩
def QF:D→List D→Option (D × D)
 | .dct .m ks ds,[.lst _ zs]=>if imms ds && imms zs && decide (ks.length+zs.length≤sizeLine) then
   (Zl zs).map fun ps=>(.dct .m (ps.foldl (fun acc p=>putP acc p.1 p.2) (ks,ds)).1 (ps.foldl (fun acc p=>putP acc p.1 p.2) (ks,ds)).2,.non) else none
 | _,_=>none
theorem Jat:∀{zs:List D} {ps:List (Key × D)},Zl zs=some ps→ps.length=zs.length
 | [],ps,h=>by cases h;rfl
 | z::zs,ps,h=>by
  unfold Zl at h
  split at h
  ·rename_i he;cases he
  ·rename_i k x ds' he
   cases he
   obtain⟨ky,h1,h2⟩:=Option.bind_eq_some_iff.mp h
   obtain⟨ps',h3,rfl⟩:=Option.map_eq_some_iff.mp h2
   simp[Jat h3]
  ·cases h
theorem mu_updL:MuOk X "dict" (Jde X.K) kdM QF:=by
 refine⟨?_,Jcz⟩
 intro C H v d fp vs ds fpa Q d' res hC hF r ra nd h k
 unfold QF at h
 split at h
 case h_2=>cases h
 rename_i ks ds0 g zs
 split at h
 case isFalse=>cases h
 rename_i hc
 simp only[Bool.and_eq_true,decide_eq_true_eq]at hc
 obtain⟨⟨hi,hiz⟩,hz⟩:=hc
 obtain⟨ps,hps,e⟩:=Option.map_eq_some_iff.mp h
 cases e
 obtain⟨a,kvs,f1,f2,rfl,n,⟨hks,hn⟩,rz,_,rfl⟩:=r
 obtain⟨hH,rfl⟩:=n
 have z:=rz.imm hi
 subst z
 obtain⟨w,rfl,rx⟩:=YR ra
 obtain⟨b,us,f,rfl,sq,rs⟩:=Jj hC hF rx
 have z2:=rs.imm hiz
 subst z2
 obtain⟨as,more,rfl,q2,q3,q4⟩:=Ja5 hC hps hiz rs
 have m:=Mono.upd (o:=.dK (mergeK kvs more)) hH trivial
 obtain⟨q1,q2',q3'⟩:=Uj (C:=C) (H:=H) (ps:=ps) (kvs:=more) (acc:=kvs) (kd:=(ks,ds0)) q3 q4 hks hn rz
 have lp:=Jat hps
 refine⟨a,b,kvs,as,more,rfl,rfl,hH,sq,q2,?_,?_⟩
 ·have e1:=congrArg List.length hks
  have e2:=congrArg List.length q3
  simp at e1 e2;omega
 ·refine k _ .non [a] [] m (fun b ob hb hnb=>?_) ⟨a,_,[a],[],rfl,⟨upd_same,rfl⟩,⟨q1,q2'⟩,q3'.keep (fun b hb=>nomatch hb) m,.inl rfl,rfl⟩ ⟨rfl,rfl⟩ (by simp) (fun b hb=>?_)
  ·rw[upd_ne (fun z=>hnb (by simp[z]))];exact hb
  ·simp at hb;subst hb;left;simp
variable {W:WX} {Ma Mb:List Nat} {o e:Expr} {es:List Expr} {cl:CL} {cs:CA} {i:Nat} {apos cpos:Pos}
def Jab (i:Nat) (kd:D→Bool) (mp:D→List D→Option (D × D)) (cs:CA):CE:=fun env=>match env[i]? with
 | some (some d0)=>if kd d0 then (cs env).bind fun ds env1=>(match env1[i]? with
  | some (some d)=>(match mp d ds with
   | some dr=>.ok dr.2 (env1.set i (some dr.1))
   | none=>.err)
  | _=>.err) else .err
 | _=>.err
theorem mutv_go {T:String} {r:V→List V→Hp→VK→Prop} {kd:D→Bool} {mp:D→List D→Option (D × D)} {M2:List Nat} (mu:MuOk X T r kd mp) {t2:TA}
  (q2:∀C fs env σ H tf Q,C.At X→Good C fs env σ H tf→Jbq W C M2 tf fs env σ H Q (cs env)→t2 σ H Q) {tt:TE}
  (htt:∀σ H Q,(tVar i σ H fun x H1=>(tyV X.K T x H1∧t2 σ H1 fun xs H2=>r x xs H2 Q))→tt σ H Q) :
  ∀C fs env σ H tf Q,C.At X→Good C fs env σ H tf→JY W C (M2++[i]) tf fs env σ H Q (Jab i kd mp cs env)→tt σ H Q:=by
 intro C fs env σ H tf Q hC G po
 refine htt σ H Q ?_
 unfold Jab at po
 split at po
 case h_2=>exact po.elim
 rename_i d0 e0
 split at po
 case isFalse=>exact po.elim
 rename_i hkd
 obtain⟨v,hv,r0⟩:=G.rep i d0 e0
 refine⟨v,hv,mu.ty C H v d0 _ hC G.fr r0 hkd,q2 C fs env σ H tf _ hC G ?_⟩
 cases e2:cs env with
 | err=>rw[e2]at po;exact po
 | ex x env'=>rw[e2]at po;exact fun cv dd fs' H' G' s=>po cv dd fs' H' G' (s.weak (fun i hi=>by simp[hi]) fun _ z=>z)
 | ok ds env2 =>
  rw[e2]at po
  intro vs fs2 H2 fpa G2 s2 ra
  have po1:JY W C (M2++[i]) tf fs env σ H Q (match env2[i]? with
   | some (some d)=>(match mp d ds with
    | some dr=>.ok dr.2 (env2.set i (some dr.1))
    | none=>.err)
   | _=>.err):=po
  split at po1
  case h_2=>exact po1.elim
  rename_i d hd2
  obtain⟨v2,hv2,r2⟩:=G2.rep i d hd2
  rw[hv]at hv2
  cases hv2
  cases e3:mp d ds with
  | none=>rw[e3]at po1;exact po1.elim
  | some dr =>
   rw[e3]at po1
   obtain⟨d',res⟩:=dr
   have hf2:fs2.getD i []=[]++fs2.getD i []++[]:=by simp
   have Fo2:=Jby r2
   have ndp:(fs2.getD i []++fpa).Nodup:=by
    have nd:=G2.nd
    refine List.nodup_append.mpr ⟨?_,(List.nodup_append.mp (List.nodup_append.mp nd).2.1).1,fun a ha b hb eab=>?_⟩
    ·have:=(List.nodup_append.mp nd).1
     have:=(Yy fs2 (G2.lt hd2)).nodup_iff.mp this
     exact(List.nodup_append.mp this).1
    ·subst eab;exact G2.apartT ha (by simp[hb])
   refine mu.run C H2 v d (fs2.getD i []) vs ds fpa Q d' res hC G2.fr r2 ra ndp e3 fun H3 w fp3 fpr m3 ch r3 rr nd3 sub3=>?_
   have tfk:∀a∈tf,H3 a=H2 a:=fun a ha=>by
    obtain⟨o,e,_⟩:=G2.trk a (by simp[ha])
    rw[e];exact ch a o e fun hx=>G2.apartT hx (by simp[ha])
   have Gn:Good C (fs2.set i ([]++fp3++[])) (env2.set i (some d')) σ H3 (fpr++tf):=by
    refine G2.mut hd2 hv hf2 Fo2 m3 ch r3 ?_ ?_ ?_
    ·rw[←List.append_assoc]
     refine List.nodup_append.mpr ⟨nd3,(List.nodup_append.mp (List.nodup_append.mp G2.nd).2.1).2.1,fun a ha b hb eab=>?_⟩
     subst eab
     rcases sub3 a ha with z | z | z
     ·exact G2.apartT z (by simp[hb])
     ·exact(List.nodup_append.mp (List.nodup_append.mp G2.nd).2.1).2.2 a z a hb rfl
     ·obtain⟨o,e,_⟩:=G2.trk a (by simp[hb])
      rw[z]at e;cases e
    ·intro a ha
     rw[←List.append_assoc]at ha
     rcases List.mem_append.mp ha with z | z
     ·rcases sub3 a z with w | w | w
      ·exact .inl w
      ·exact .inr (.inl (by simp[w]))
      ·exact .inr (.inr w)
     ·exact .inr (.inl (by simp[z]))
    ·intro a ha
     rcases List.mem_append.mp ha with z | z
     ·exact rr.trk a z
     ·rw[tfk a z];exact G2.trk a (by simp[z])
   have sn:Step [i] tf fs2 env2 H2 (fs2.set i ([]++fp3++[])) (env2.set i (some d')) H3:=Step.mut (d:=d) G2 hd2 hf2 m3 ch
   exact po1 w _ H3 fpr Gn (s2.trans sn) rr
theorem so_updLV {x:Str} {npos:Pos} (hcalm:X.calm=true) (i:Nat) (ha:SAO X W Mb (e::es) cs) (hN:X.N[i]?=some x) (hv:Vis X.env.scope x) (hd:(x == ("__debug__" : Str))=false) (hcd:(x == ("__classdict__" : Str))=false)
  (hbase:attributeBase (.Name x npos) "update" X.env (eval (.Name x npos) X.env)=eval (.Name x npos) X.env)
  (hfew:((backTo cpos (starEach (e::es) X.env)).all (fun x=>!x.1) && (backToKw cpos (keywordEach [] X.env)).all (fun x=>x.1.isSome)
   && decide ((e::es).length+([]:List Keyword).length+(if ([]:List Keyword).isEmpty then 0 else 1) < 30))=true)
  (hline:(apos.endLine == cpos.line)=true) (hs:starEach (e::es) X.env=(false,eval e X.env)::starEach es X.env) (hplain:(backTo cpos (starEach es X.env)).any (·.1)=false) :
  SO X W (Mb++[i]) (.Call (.Attribute (.Name x npos) "update" apos) (e::es) [] cpos) (Jab i kdM QF cs):=by
 obtain⟨t2,p2,q2⟩:=ha.go
 exact⟨tBM X.K "dict" (Jde X.K) (tVar i) t2,pe_bm PySem.F.plainAttrs_dict PySem.F.slot_dict_update PySem.F.type_dict_update (mt_updL hcalm) (pe_var hN hv hd hcd) p2 hbase hfew hline hs hplain,mutv_go mu_updL q2 fun σ H Q h=>h⟩
@[simp] theorem e_mutv {env:Env} {kd:D→Bool} {mp:D→List D→Option (D × D)}:Jab i kd mp cs env=match env[i]? with
 | some (some d0)=>if kd d0 then (cs env).bind fun ds env1=>(match env1[i]? with
  | some (some d)=>(match mp d ds with
   | some dr=>.ok dr.2 (env1.set i (some dr.1))
   | none=>.err)
  | _=>.err) else .err
 | _=>.err:=(rfl)
end
end VS
namespace VS
open PySem PySem.W PySem.Calls PyProof.Rows PyProof.V PySem.Spec
theorem rvl_no_len:typeLookup (.type "list_reverseiterator") "__len__" = pure none:=by rw[typeLookup_type,builtinLookup_eq_fast];kernel_rfl
theorem rvl_hint:typeLookup (.type "list_reverseiterator") "__length_hint__" = pure (some (.builtin "list_reverseiterator.__length_hint__")):=by rw[typeLookup_type,builtinLookup_eq_fast];kernel_rfl
section
variable {prog:Program} {w:World} {A:Around} {E:Value→Shared→Prop} {s:Shared} {I:Addr} {fp wr:List Addr} {G:Array GenState→Array GenState→Prop} {n:Nat} {P:Nat→Value→Prop} {St:Nat→Shared→Prop}
theorem rv_extend {R:Result→Shared→Prop} (W:WalksS prog w A.in1 I fp wr G n P St) (hT:∀i s,St i s→s.TypeIs (.ref I) "list_reverseiterator") (hn:n≤sizeLine) (S:Addr) (hSf:S∉fp) (hI:I∈fp) (res:Value) (c₀:Nat) (hst:St 0 s)
  (hS:s.heap.get? S=some { cls:=.type "list", data:=.seq #[] c₀ })
  (hR:∀s' acc' c',Moved (S::wr) G s s'→s'.heap.get? S=some { cls:=.type "list", dict:=none,data:=.seq acc' c',slots:=#[] }→ItemsOf P acc' n→R (.ok (.ret res)) s') :
  wpAny (model prog w) A.in1 (Builtin.List.listExtendWith (.ref S) (.ref I) res)
   (fun fin s'=>match fin with | .done f=>R (.ok f) s' | .again c'=>c'.quiet=true∧codeAny (model prog w) A c' R s') (fun e s'=>R (.error e) s') s:=by
 have hSI:S≠I:=fun e=>hSf (e ▸ hI)
 have h1:Builtin.List.listSameRef (.ref S) (.ref I)=false:=by simp[Builtin.List.listSameRef,hSI]
 unfold Builtin.List.listExtendWith
 refine wpAny_bind (wpAny_typeOf (hT 0 _ hst) ?_)
 rw[if_neg (by rw[h1];decide)]
 refine wpAny_bind (W.self 0 _ _ _ hst ?_)
 refine wpAny_bind (wpAny_holding ?_)
 unfold Builtin.List.listLengthHint
 refine wpAny_bind (wpAny_specialOf (hT 0 _ hst) rvl_no_len ?_)
 show wpAny _ A.in1 (specialOf (Value.ref I) (Str.ofString "__length_hint__") >>= _) _ _ _
 refine wpAny_bind (wpAny_specialOf (hT 0 _ hst) rvl_hint ?_)
 generalize hid:("list_reverseiterator.__length_hint__" : String)=id0
 wp_delta
 rw[show splitId id0=some ("list_reverseiterator", "__length_hint__") from by subst hid;decide +kernel]
 subst hid
 refine wpAny_bind (wpAny_isInstance (b:=true) (hT 0 _ hst) (by rw[isSubtype_type];kernel_rfl) ?_)
 refine wpAny_pure ?_
 rw[if_neg (by decide)]
 exact wpAny_pure ⟨plainId_quiet PySem.F.plain_extend_loop _,codeAny_extend_loopS W hn S hSf res n 0 _ _ c₀ rfl (Nat.zero_le _) hst hS (ItemsOf.nil P) fun s' acc' c' hm hS' hacc=>hR s' acc' c' hm hS' hacc⟩
theorem rv_call {Q:Value→Shared→Prop} (hh:A.handled=none) {l:Addr} {items:Array Value} (hit:s.heap.IsRevIter I l ((items.size:Int) - 1)) (hl:s.heap.IsList l items) (hne:l≠I) (hn:items.size≤sizeLine)
  (hQ:∀h' tk acc c,(∀b o,b≠I→s.heap.get? b=some o→h'.get? b=some o)→h'.get? s.heap.objs.size=some { cls:=.type "list", dict:=none,data:=.seq acc c,slots:=#[] }→ItemsOf (fun i v=>items[items.size - 1 - i]?=some v) acc items.size→Q (.ref s.heap.objs.size) { s with heap:=h',toks:=tk }) :
  wpAny (model prog w) A (call (.type "list") [.ref I]) Q E s:=by
 refine callType_codes (Q₁:=fun obj s₁=>obj=.ref s.heap.objs.size∧s₁={ s with heap:=s.heap.push { cls:=.type "list", data:=.seq #[] } }) PySem.F.called_list (PySem.F.typeCall_list_1 _) PySem.F.entry_list_init
  (code_list_new _ ⟨rfl,rfl⟩) fun obj s₁ hob=>?_
 obtain⟨rfl,rfl⟩:=hob
 have hS:(s.heap.push { cls:=.type "list", data:=.seq #[] }).get? s.heap.objs.size=some { cls:=.type "list", data:=.seq #[] }:=Heap.get?_push_size _ rfl
 refine⟨⟨_,hS,rfl⟩,PySem.F.args_list_init_2 _ _,?_⟩
 show wpAny _ _ (do let old ←Builtin.List.listItems (.ref s.heap.objs.size);Builtin.List.listUpdate (.ref s.heap.objs.size) (fun _=>#[]);letGo old.toList.reverse;Builtin.List.listExtendWith (.ref s.heap.objs.size) (.ref I) .none) _ _ _
 refine wpAny_bind ?_
 unfold Builtin.List.listItems
 refine wpAny_bind (wpAny_seqItems hS rfl (wpAny_pure ?_))
 show wpAny _ _ (updateSeq s.heap.objs.size (fun _=>#[]) >>= fun _=>letGo (#[]:Array Value).toList.reverse >>= fun _=>Builtin.List.listExtendWith (.ref s.heap.objs.size) (.ref I) .none) _ _ _
 refine wpAny_bind (wpAny_updateSeq hS rfl ?_)
 have hS₂:=Heap.get?_update_self (Obj.mapSeq (fun _=>(#[]:Array Value))) hS rfl
 have oth:∀b o,b≠s.heap.objs.size→s.heap.get? b=some o→((s.heap.push { cls:=.type "list", data:=.seq #[] }).update s.heap.objs.size (Obj.mapSeq (fun _=>(#[]:Array Value)))).get? b=some o :=
  fun b o hb e=>(Heap.get?_update_other _ _ (Ne.symm hb)).trans (Heap.get?_push_of_some _ e)
 have lt:∀{b o},s.heap.get? b=some o→b≠s.heap.objs.size:=fun e=>Nat.ne_of_lt (Heap.lt_size e)
 refine wpAny_bind (wpAny_letGo ?_)
 have W:=(Walks.listRev (prog:=prog) (w:=w) (A:=A.in1.in1) hh I l hne items).toS
 obtain⟨oi,hoi,ci,di⟩:=id hit
 obtain⟨ol,hol,cl,nl,dl⟩:=id hl
 have hSf:s.heap.objs.size∉[I,l]:=fun hm=>by
  rcases List.mem_cons.mp hm with e | hm
  ·exact lt hoi e.symm
  ·exact lt hol (List.mem_singleton.mp hm).symm
 refine rv_extend (A:=A.in1) (c₀:=0) W (fun i s h=>h.2.1.typeIs) hn s.heap.objs.size hSf (by simp) .none ⟨Nat.zero_le _,?_,?_⟩ hS₂ fun s' acc' c' hm hS' hacc=>?_
 ·have:=hit.at (h':=((s.heap.push { cls:=.type "list", data:=.seq #[] }).update s.heap.objs.size (Obj.mapSeq (fun _=>(#[]:Array Value))))) fun o e=>oth _ o (lt hoi) e
  simpa using this
 ·exact hl.at fun o e=>oth _ o (lt hol) e
 ·rw[Moved.eq_with hm]
  exact⟨rfl,hQ s'.heap s'.toks acc' c' (fun b o hb e=>hm.heap b o (fun hmem=>by
   rcases List.mem_cons.mp hmem with e' | hmem
   ·exact lt e e'
   ·exact hb (List.mem_singleton.mp hmem)) (oth b o (lt e) e)) hS' hacc⟩
end
end VS
namespace VS
open PySem L2 SeqAt PySem.Spec PyProof.Rows
section
variable {X:Cx} {W:WX} {M Rs:List Nat} {e:Expr} {ca:CE} {p pos p2 pos2:Pos}
def Jdq (K:PySem.W.Frag) (te:TE):TE:=fun σ H Q=>te σ H fun v H1=>∃(a:Addr) (xs:List V),v=.ref a∧SqL K H1 a xs∧∀q,H1 q=none→Q (.ref q) (upd H1 q (.lst xs.reverse))
theorem pe_revL {te:TE} (hc:X.calm=true) (hg:Gl X "list") (hm:X.mg "list" = none) (hg2:Gl X "reversed") (hm2:X.mg "reversed" = none) (he:PE X e te)
  (hs:starEach [e] X.env=(false,eval e X.env)::starEach [] X.env:=by rfl)
  (hs2:starEach [.Call (.Name "reversed" p2) [e] [] pos2] X.env=(false,eval (.Call (.Name "reversed" p2) [e] [] pos2) X.env)::starEach [] X.env:=by rfl) :
  PE X (.Call (.Name "list" p) [.Call (.Name "reversed" p2) [e] [] pos2] [] pos) (Jdq X.K te):=by
 refine⟨fun pins s σ H Q I h=>?_⟩
 refine Call_ (ld_blt I hg hm PyProof.Rows.boot_list (PyProof.Rows.callWith_type1 (args_cons (Call_ (ld_blt I hg2 hm2 PyProof.Rows.boot_reversed (PyProof.Rows.callWith_type1 (args_cons (thn (he.run pins s σ H _ I h) fun u s1 ⟨v,H1,I1,r1,q1⟩=>args_nil ?_) hs) hs rfl))) hs2) hs2 rfl))
 obtain⟨a,xs,ev,hq,q⟩:=q1
 subst ev
 obtain rfl:u=Value.ref a:=r1
 obtain⟨its,rv,p',hz⟩:=I1.list hq
 refine call_reversed_list p'.isList (args_nil ?_)
 have k0:∀b o,s1.heap.get? b=some o→(s1.heap.push (revObj a ((its.toArray.size:Int) - 1))).get? b=some o:=fun b o e=>Heap.get?_push_of_some _ e
 have hl:=p'.isList
 obtain⟨ol,hol,_⟩:=id hl
 have hne:a≠s1.heap.objs.size:=Nat.ne_of_lt (Heap.lt_size hol)
 have hn:its.toArray.size≤sizeLine:=by rw[List.size_toArray,←rv.length];exact hz
 refine rv_call (s:={ s1 with heap:=s1.heap.push (revObj a ((its.toArray.size:Int) - 1)) }) (I1.ok.hd hc) ⟨_,Heap.get?_push_size _ rfl,rfl,rfl⟩ (hl.push _) hne hn fun h' tk acc c hk hS hi=>?_
 have k1:∀b o,s1.heap.get? b=some o→h'.get? b=some o:=fun b o e=>hk b o (Nat.ne_of_lt (Heap.lt_size e)) (k0 b o e)
 have hle:s1.heap.objs.size≤(s1.heap.push (revObj a ((its.toArray.size:Int) - 1))).objs.size:=by
  have:(s1.heap.push (revObj a ((its.toArray.size:Int) - 1))).objs.size=s1.heap.objs.size+1:=by simp[Heap.push]
  rw[this];exact Nat.le_succ _
 refine⟨.ref _,upd H1 _ (.lst xs.reverse),I1.laid (t':=tk) k1 hle (show ObjOk X.prog X.w _ _ _ (.lst xs.reverse) from ⟨by rw[List.length_reverse];exact hz,acc.toList,c,RT.vals_rev rv hi,?_⟩),rfl,q _ (I1.hok.fresh hle)⟩
 rw[Array.toArray_toList]
 exact hS
def revL:D→Option D
 | .lst _ ds=>if imms ds then some (.lst .m ds.reverse) else none
 | _=>none
def Jcw (ca:CE):CE:=fun env=>(ca env).bind fun d env=>R.of (revL d) env
theorem so_revL (hc:X.calm=true) (hg:Gl X "list") (hm:X.mg "list" = none) (hg2:Gl X "reversed") (hm2:X.mg "reversed" = none) (h:SB X W M Rs e ca)
  (hs:starEach [e] X.env=(false,eval e X.env)::starEach [] X.env:=by rfl)
  (hs2:starEach [.Call (.Name "reversed" p2) [e] [] pos2] X.env=(false,eval (.Call (.Name "reversed" p2) [e] [] pos2) X.env)::starEach [] X.env:=by rfl) :
  SO X W M (.Call (.Name "list" p) [.Call (.Name "reversed" p2) [e] [] pos2] [] pos) (Jcw ca):=by
 obtain⟨t,pe,q⟩:=h.go
 refine⟨Jdq X.K t,pe_revL hc hg hm hg2 hm2 pe hs hs2,fun C fs env σ H tf Q hC G po=>?_⟩
 refine q C fs env σ H tf _ hC G ?_
 unfold Jcw at po
 cases e1:ca env with
 | err=>rw[e1]at po;exact po
 | ex x env'=>rw[e1]at po;exact po
 | ok d env1 =>
  rw[e1]at po
  intro v fs1 H1 fp own G1 s1 r1 i1
  have po':JY W C M tf fs env σ H Q (R.of (revL d) env1):=po
  cases ez:revL d with
  | none=>rw[ez]at po';exact po'.elim
  | some z =>
  rw[ez]at po'
  unfold revL at ez
  split at ez
  ·rename_i g xs
   split at ez<;>cases ez
   rename_i hi
   obtain⟨a,vs,f3,rfl,sq,rs⟩:=Jj hC G1.fr r1
   have z1:=rs.imm hi
   subst z1
   refine⟨a,vs,rfl,sq,fun S hS=>?_⟩
   have le:Le H1 (L2.upd H1 S (.lst vs.reverse)):=fun b u e=>by
    have hb:b≠S:=fun z=>by rw[z,hS]at e;cases e
    show (if b=S then _ else H1 b)=_
    rw[if_neg hb];exact e
   have hself:(L2.upd H1 S (.lst vs.reverse)) S=some (.lst vs.reverse):=if_pos rfl
   exact Ym (own:=own) G1 s1 po' (.ref S) (L2.upd H1 S (.lst vs.reverse)) [S] le ⟨S,vs.reverse,[S],[],rfl,⟨hself,rfl⟩,JbE (rs.le le),.inl rfl,rfl⟩ (by simp) (by simpa using hS)
  ·cases ez
@[simp] theorem e_revL {env:Env}:Jcw ca env=(ca env).bind fun d env=>R.of (revL d) env:=(rfl)
@[simp] theorem revL_l (g:Fl) (xs:List D):revL (.lst g xs)=if imms xs then some (.lst .m xs.reverse) else none:=(rfl)
end
end VS
namespace VS
open PySem L2 SeqAt PySem.Spec PyProof.Rows
def repS (x:Str) (k:Int):Str:=if k < 1 then Str.empty else if (k == 1 || x.length == 0)=true then x else ⟨(List.replicate k.toNat x.cps).foldl (·++·) #[]⟩
def QQ:D→D→Option D
 | .str x,.int k=>if 0≤k∧k≤1000∧x.length≤1000 then some (.str (repS x k)) else none
 | _,_=>none
section
variable {X:Cx}
theorem od_mulS:OD2 X (binaryOp .Mult) QQ:=by
 intro pins s σ H x y v u Q I rx ry ⟨C,dx,dy,fx,fy,d,hC,hF,r1,r2,e,kk⟩
 unfold QQ at e
 split at e
 case h_2=>cases e
 rename_i x n
 split at e
 case isFalse=>cases e
 rename_i hc
 obtain⟨h0,h1,h2⟩:=hc
 cases e
 obtain⟨rfl,_⟩:=r1
 obtain⟨rfl,_⟩:=r2
 obtain⟨t,rfl⟩:=rx
 obtain⟨t',rfl⟩:=ry
 have hl:Builtin.Str.tooLong (x.length * n.toNat)=false:=by
  have:x.length * n.toNat≤1000 * 1000:=Nat.mul_le_mul h2 (by omega)
  have e:sizeLine=16777216:=by decide +kernel
  simp only[Builtin.Str.tooLong,decide_eq_false_iff_not,e];omega
 refine P.mul_str ?_ ?_ (fun _ _=>hl) ?_
 ·rw[decide_eq_false (by omega),decide_eq_false (by omega)];rfl
 ·intro q1 q2
  have:(2 ^ 63 - 1) / n ≥ 1000:=by
   refine Int.le_ediv_of_mul_le (by omega) ?_
   omega
  omega
 ·have fin:∀(z:Str) (tk:Nat) (tt:Tok),z=repS x n→EP X pins σ Q (.str z tt) { s with toks:=tk }:=fun z tk tt ez=>by
   subst ez
   exact⟨.str (repS x n),H,I.tok _,⟨tt,rfl⟩,kk.here ⟨rfl,rfl⟩⟩
  by_cases q1:n < 1
  ·rw[if_pos q1]
   exact⟨by decide,fin _ _ _ (by unfold repS;rw[if_pos q1])⟩
  ·rw[if_neg q1]
   by_cases q2:(n == 1 || x.length == 0)=true
   ·rw[if_pos q2]
    exact fin _ _ _ (by unfold repS;rw[if_neg q1,if_pos q2])
   ·rw[if_neg q2]
    exact⟨fits_reps hl,fin _ _ _ (by unfold repS;rw[if_neg q1,if_neg q2])⟩
end
@[simp] theorem Jdh (x:Str) (k:Int):QQ (.str x) (.int k)=if 0≤k∧k≤1000∧x.length≤1000 then some (.str (repS x k)) else none:=(rfl)
end VS
set_option maxHeartbeats 6400000
namespace VS
open PySem L2 SeqAt PySem.Spec PyProof.Rows
abbrev set0 (w:World):Obj:={ cls:=.type "set", dict:=none,data:=.set #[] 0 (.fresh 0 0 (!w.params.followText "set-order")) }
structure SetRun (P:Program) (w:World) (n:Nat) (Vl:Nat→Value→Prop) (Sp:Nat→Heap→Addr→Prop):Prop where
 start:∀{h:Heap} {a:Addr},h.get? a=some (set0 w)→Sp 0 h a
 keep:∀{i:Nat} {h h':Heap} {a:Addr},Sp i h a→(∀o,h.get? a=some o→h'.get? a=some o)→Sp i h' a
 add:∀{i:Nat} {a:Addr} {v:Value} {A:Around} {E:Value→Shared→Prop} {s:Shared} {Q:Bool→Shared→Prop},i < n→Sp i s.heap a→Vl i v →
  (∀(b:Bool) (h':Heap) (tk:Nat),Heap.SameBut a s.heap h'→s.toks≤tk→Sp (i+1) h' a→Q b { s with heap:=h',toks:=tk })→wpAny (model P w) A (setAdd a v) Q E s
section
variable {P:Program} {w:World} {A:Around} {E:Value→Shared→Prop} {s:Shared}
theorem SetRun.loop {Sp:Nat→Heap→Addr→Prop} {Vl Pv:Nat→Value→Prop} {I S:Addr} {fp wr:List Addr} {g:Array GenState→Array GenState→Prop} {n:Nat} {St:Nat→Shared→Prop} {R:Result→Shared→Prop} (G:SetRun P w n Vl Sp)
  (Wk:WalksS P w A.in1 I fp wr g n Pv St) (nS:S∉fp) (hv:∀i v,Pv i v→Vl i v) :
  ∀(k i:Nat) (t:Shared),n - i=k→i≤n→St i t→Sp i t.heap S→(∀t',Moved (S::wr) g t t'→Sp n t'.heap S→R (.ok (.ret .none)) t')→codeAny (model P w) A (.builtin "set.update.loop" ⟨[.ref S,.ref I],[]⟩) R t:=by
 have nW:S∉wr:=fun h=>nS (Wk.sub _ h)
 have up:∀b∈wr,b∈S::wr:=fun b hb=>List.mem_cons_of_mem _ hb
 intro k
 induction k with
 | zero =>
  intro i t hk hi hst sp fin
  obtain rfl:i=n:=by omega
  refine codeAny_builtin F.entry_set_update_loop ?_
  rw[Around.under_plainId F.plain_set_update_loop _]
  refine (show wpAny _ A.in1 (pyNext (.ref I) >>= _) _ _ t from wpAny_bind (Wk.done t _ _ hst fun t' hm=>?_))
  exact(show wpAny _ A.in1 (ret Value.none) _ _ t' from wpAny_pure (fin t' (hm.mono up) (G.keep sp fun o e=>hm.heap S o nW e)))
 | succ k ih =>
  intro i t hk hi hst sp fin
  have lt:i < n:=by omega
  refine codeAny_builtin F.entry_set_update_loop ?_
  rw[Around.under_plainId F.plain_set_update_loop _]
  refine (show wpAny _ A.in1 (pyNext (.ref I) >>= _) _ _ t from wpAny_bind (Wk.item i t _ _ lt hst fun v t' hP hst' hm=>?_))
  refine (show wpAny _ A.in1 (holding [v] (setAdd S v) >>= _) _ _ t' from wpAny_bind (wpAny_holding ?_))
  refine G.add lt (G.keep sp fun o e=>hm.heap S o nW e) (hv i v hP) fun b h' tk sb htk sp'=>?_
  refine wpAny_pure ⟨plainId_quiet F.plain_set_update_loop _,ih (i+1) _ (by omega) lt (Wk.frame _ t' _ _ hst' htk fun b hb o e=>?_) sp' fun t2 hm2 sp2=>fin t2 (Moved.trans Wk.gtrans ((hm.mono up).then_heap htk fun b o hb e=>?_) hm2) sp2⟩
  ·rw[sb.2 b (fun z:b=S=>nS (z ▸ hb))];exact e
  ·rw[sb.2 b (fun z:b=S=>hb (by rw[z];exact List.mem_cons_self))];exact e
end
end VS
namespace VS
open PySem L2 SeqAt PySem.Spec PyProof.Rows
instance lawKey:LawfulBEq (Sum Int Str) where
 eq_of_beq {a b} h:=by
  cases a<;>cases b<;>first | exact congrArg Sum.inl (eq_of_beq (α:=Int) h) | exact congrArg Sum.inr (eq_of_beq (α:=Str) h) | exact nomatch (show false=true from h)
 rfl {a}:=by
  cases a with
  | inl i=>exact(beq_self_eq_true i:(i == i)=true)
  | inr x=>exact(beq_self_eq_true x:(x == x)=true)
def ddup {α:Type} [DecidableEq α]:List α→List α
 | []=>[]
 | k::ks=>if k∈ks then ddup ks else k::ddup ks
theorem Zo {α:Type} [DecidableEq α]:∀(ks:List α) (x:α),x∈ddup ks↔x∈ks
 | [],x=>by simp[ddup]
 | k::ks,x=>by
  unfold ddup
  split
  ·rename_i h
   rw[Zo ks x,List.mem_cons]
   exact⟨.inr,fun z=>z.elim (fun z=>by rw[z];exact h) id⟩
  ·rw[List.mem_cons,List.mem_cons,Zo ks x]
theorem UW {α:Type} [DecidableEq α]:∀(ks:List α),(ddup ks).Nodup
 | []=>by simp[ddup]
 | k::ks=>by
  unfold ddup
  split
  ·exact UW ks
  ·rename_i h
   exact List.nodup_cons.mpr ⟨fun z=>h ((Zo ks k).mp z),UW ks⟩
theorem nodup_len_eq {α:Type} [DecidableEq α]:∀{xs ys:List α},xs.Nodup→ys.Nodup→(∀x,x∈xs↔x∈ys)→xs.length=ys.length:=by
 intro xs ys hx hy h
 have p:=(List.perm_ext_iff_of_nodup hx hy).mpr h
 exact p.length_eq
end VS
set_option maxHeartbeats 6400000
namespace VS
open PySem L2 SeqAt PySem.Spec PyProof.Rows
section
variable {P:Program} {w:World} {K:Type} [DecidableEq K] (knd:KeyKind P w K)
noncomputable def memK (e:Int × Value):Option K:=@dite _ (∃k,knd.is k e.2=true) (Classical.propDecidable _) (fun h=>some (Classical.choose h)) (fun _=>none)
def SetW (h:Heap) (a:Addr) (S:K→Bool) (n:Nat):Prop :=
 ∃o es ep t,h.get? a=some o∧o.ExactSet∧o.data=.set es ep t∧ElemsOf knd es.toList∧(es.toList.map (memK knd)).Nodup∧(∀k,S k=true↔some k∈es.toList.map (memK knd)) ∧
  (es.size < scanBound∧t.fits es.size=true∧es.size=n)∧Ris t.place.toList∧(w.params.followText "set-order" = true∨t.led=true)
variable {knd} {A:Around} {E:Value→Shared→Prop} {s:Shared} {a:Addr} {S:K→Bool} {n:Nat}
theorem SetW.at {h h':Heap} (R:SetW knd h a S n) (k:∀o,h.get? a=some o→h'.get? a=some o):SetW knd h' a S n:=by
 obtain⟨o,es,ep,t,ho,r⟩:=R
 exact⟨o,es,ep,t,k o ho,r⟩
theorem SetW.congr {h:Heap} {S':K→Bool} {n':Nat} (R:SetW knd h a S n) (e:∀k,S' k=S k) (en:n'=n):SetW knd h a S' n':=by
 have q:S'=S:=funext e
 rw[q,en];exact R
end
section
variable {X:Cx} {C:Ctx} {H H':Hp} {pins:List (Addr × Obj)} {σ:L2.St} {s:Shared}
theorem sorted_by2 (I:Inv X pins σ H s) {k:Nat} (hr:Room k X.A) (hC:C.At X) (hF:Fr C H) {u:Value} {res:List D} {Q:VK}
  (hcoll:∀{R:List Value→Shared→Prop} {E:Value→Shared→Prop},(∀t us ds vs,(∀b o,s.heap.get? b=some o→t.heap.get? b=some o)→t.gens=s.gens→t.os=s.os→UR ds=true→Reps C H ds vs []→Vals vs us→ds.mergeSort leD=res→R us t)→wpAny (model X.prog X.w) X.A.in1 (collect u) R E s)
  (hq:∀p,H p=none→∀vs',Reps C H res vs' []→Q (.ref p) (upd H p (.lst vs'))):wpAny (model X.prog X.w) X.A (call (.builtin "sorted") [u]) (EP X pins σ Q) X.xe s:=by
 refine Calls.call_function_entry PyProof.Rows.kind_sorted PyProof.Rows.plain_sorted PyProof.Rows.entry_sorted (PyProof.Rows.args_sorted1 _) ?_
 unfold Builtin.«sorted»
 refine wpAny_bind (m:=checkCount "sorted" 1 1 _) (wpAny_pure ?_)
 refine wpAny_bind (hcoll fun t us ds vs hk hg ho hok rs rv hres=>?_)
 subst hres
 obtain⟨h6,hlen⟩:=Bool.and_eq_true_iff.mp hok
 obtain⟨h5,hsh⟩:=Bool.and_eq_true_iff.mp h6
 obtain⟨h4,hso⟩:=Bool.and_eq_true_iff.mp h5
 obtain⟨h3,hal⟩:=Bool.and_eq_true_iff.mp h4
 obtain⟨h2,hi⟩:=Bool.and_eq_true_iff.mp h3
 obtain⟨ys,hys⟩:=Option.isSome_iff_exists.mp h2
 have hlen:=of_decide_eq_true hlen
 have lv:ds.length=vs.length:=Je rs
 have lu:us.length=ds.length:=by rw[lv,rv.length]
 have I1:Inv X pins σ H t:=I.call' (ch:=[]) ho (Un.kept hk) (I.hok.kept hk) (by rw[hg];exact I.bare) (fun _ z=>nomatch z)
 have er0:=ZN I1 hC hF hys rs rv
 refine wpAny_bind (wpAny_newList ?_ (by rw[lu];exact hlen))
 have hoL:(t.heap.push (seqObj "list" us.toArray 0)).get? t.heap.objs.size=some (seqObj "list" us.toArray 0):=Heap.get?_push_size _ rfl
 show wpAny _ _ _ _ _ { t with heap:=t.heap.push (seqObj "list" us.toArray 0) }
 have er1:PySem.W.EachIs (fun (u:Value) (b:D × V)=>∃as,Reads (t.heap.push (seqObj "list" us.toArray 0)) u (pyO b.1) as∧t.heap.objs.size∉as) us (ds.zip vs) :=
  er0.mono fun u b ⟨as,r,l⟩=>⟨as,PyProof.Rows.Reads.keeps (fun _ _ e=>Heap.get?_push_of_some _ e) r,fun z=>Nat.lt_irrefl _ (l _ z)⟩
 have hz1:(ds.zip vs).map (fun b=>pyO b.1)=ds.map pyO:=by
  have e:=congrArg (List.map pyO) (Qk lv)
  rw[List.map_map]at e;exact e
 have hal':PySem.W.AllAlike ((ds.zip vs).map (fun b=>pyO b.1)):=by rw[hz1];exact Qz hal
 have hso':PySem.W.Sortable ((ds.zip vs).map (fun b=>pyO b.1)):=by rw[hz1];exact ZT hso
 have er2:PySem.W.EachIs (fun (u:Value) (b:D × V)=>∃as,Reads (PySem.W.sortingHeap (t.heap.push (seqObj "list" us.toArray 0)) t.heap.objs.size us) u (pyO b.1) as) us (ds.zip vs) :=
  PySem.W.each_keepBut (h':=PySem.W.sortingHeap (t.heap.push (seqObj "list" us.toArray 0)) t.heap.objs.size us) (fun _ _ hb q=>PySem.W.sortingHeap_old hb q) (fun o q=>by rw[hoL]at q;rw[←Option.some.inj q]) hal' er1
 have lz:(ds.zip vs).length=us.length:=by simp;omega
 have hun:∀b∈ds.zip vs,X.A.in1.in1.units+(pyO b.1).depth < cLine:=fun b hb=>by
  have h1:=of_decide_eq_true (List.all_eq_true.mp hsh b.1 (List.of_mem_zip hb).1)
  have:=hr.units
  show X.A.units+1+1+_ < _
  omega
 have eo:=PySem.W.sortVals_data (R:=fun (u:Value) (b:D × V)=>RelV b.2 u) false (JaA lv rv) er2 hal'
 refine wpAny_bind (wpAny_holding (wpAny_call_entry PyProof.Rows.slot_list_sort ⟨_,hoL,rfl⟩ PyProof.Rows.entry_list_sort
  (PySem.W.list_sort_vals (κ:=PySem.W.dataKind (PySem.W.sortingHeap (t.heap.push (seqObj "list" us.toArray 0)) t.heap.objs.size us) ((ds.zip vs).map (fun b=>pyO b.1))) (s:={ t with heap:=t.heap.push (seqObj "list" us.toArray 0) }) hoL
   (PySem.W.SortsAt.data (s:={ t with heap:=PySem.W.sortingHeap (t.heap.push (seqObj "list" us.toArray 0)) t.heap.objs.size us }) (PySem.W.each_map (R:=fun v d=>∃as,Reads (PySem.W.sortingHeap (t.heap.push (seqObj "list" us.toArray 0)) t.heap.objs.size us) v d as) (fun b:D × V=>pyO b.1) er2) hal' hso' (PySem.W.bound_map hun)) (by rw[lu];exact hlen) ⟨.none,rfl,?_⟩)
  (PyProof.Rows.args_list_sort _)))
 have hout:=Qy eo
 have hperm:=List.mergeSort_perm (ds.zip vs) (PySem.W.dataLe false fun b:D × V=>pyO b.1)
 have hreps:Reps C H (((ds.zip vs).mergeSort (PySem.W.dataLe false fun b:D × V=>pyO b.1)).map (·.1)) (((ds.zip vs).mergeSort (PySem.W.dataLe false fun b:D × V=>pyO b.1)).map (·.2)) [] :=
  YZ fun b hb=>Uz rs b (hperm.mem_iff.mp hb)
 have hms:((ds.zip vs).mergeSort (PySem.W.dataLe false fun b:D × V=>pyO b.1)).map (·.1)=ds.mergeSort leD:=by
  have hm:=List.map_mergeSort (r:=PySem.W.dataLe false fun b:D × V=>pyO b.1) (s:=leD) (f:=fun b:D × V=>b.1) (l:=ds.zip vs) (fun a _ b _=>rfl)
  rw[hm,Qk lv]
 rw[hms]at hreps
 obtain⟨e',he'⟩:=PyProof.Rows.sortedHeap_at (vs:=us) (out:=(PySem.W.sortVals (PySem.W.dataKind (PySem.W.sortingHeap (t.heap.push (seqObj "list" us.toArray 0)) t.heap.objs.size us) ((ds.zip vs).map (fun b=>pyO b.1))) false us us).toArray) hoL
 have hl2:(((ds.zip vs).mergeSort (PySem.W.dataLe false fun b:D × V=>pyO b.1)).map (·.2)).length≤sizeLine:=by
  rw[List.length_map,hperm.length_eq,lz,lu];exact hlen
 refine wpAny_pure ⟨_,rfl,.ref t.heap.objs.size,upd H t.heap.objs.size (.lst (((ds.zip vs).mergeSort (PySem.W.dataLe false fun b:D × V=>pyO b.1)).map (·.2))),I1.laid (t':=t.toks) (fun b u e=>?_) (Nat.le_refl _)
  (show ObjOk X.prog X.w _ _ _ (.lst _) from ⟨hl2,_,e',hout,he'⟩),rfl,hq _ (I1.hok.fresh (Nat.le_refl _)) _ hreps⟩
 have hb:b < t.heap.objs.size:=Heap.lt_size e
 rw[PyProof.Rows.sortedHeap_old (Nat.ne_of_lt hb) (by rw[size_push'];exact Nat.lt_succ_of_lt hb)]
 exact Heap.get?_push_of_some _ e
end
section
variable {X:Cx} {W:WX} {M Rs:List Nat} {e:Expr} {c:CE} {p p2 q2 pos:Pos}
theorem Jba {a b:Str} (h1:leS a b=true) (h2:leS b a=true):a=b:=by
 have cps:∀a b:Str,leS a b=decide (a.cps.toList≤b.cps.toList):=fun a b=>by
  have h:=PySem.W.dataLe_str (fun s:Str=>s)
  have e:leS=PySem.W.dataLe false (fun s:Str=>.str s):=rfl
  rw[e,h]
 rw[cps,decide_eq_true_eq]at h1 h2
 have e:a.cps.toList=b.cps.toList:=List.le_antisymm h1 h2
 cases a;cases b
 simp at e ⊢
 exact e
theorem JaP (ns:List Str):(Yf ns).Pairwise fun a b=>leS a b=true:=by
 have tot:PySem.W.TotalLe leS:=by
  have e:leS=PySem.W.sortLe (PyProof.Rows.listOrd PyProof.Rows.itemOrd) false (fun s:Str=>PySem.W.keyToks (.str s)):=rfl
  rw[e];exact PySem.W.sortLe_total _ _ _
 exact List.pairwise_mergeSort tot.trans (fun a b=>Bool.or_eq_true_iff.mpr (tot.total a b)) ns
theorem sortS_sameT {R R':List Str} (n1:R.Nodup) (n2:R'.Nodup) (h:∀x,x∈R↔x∈R'):Yf R=Yf R' :=
 List.Perm.eq_of_pairwise (le:=fun a b=>leS a b=true) (fun a b _ _ h1 h2=>Jba h1 h2) (JaP _) (JaP _) ((YV _).trans (((List.perm_ext_iff_of_nodup n1 n2).mpr h).trans (YV _).symm))
end
end VS
set_option maxHeartbeats 6400000
namespace VS
open PySem L2 SeqAt PySem.Spec PyProof.Rows
section
variable {P:Program} {w:World} {K:Type} [DecidableEq K] (knd:KeyKind P w K)
structure Flat:Prop where
 cls:∀{k:K} {v:Value},knd.is k v=true→∀n,ofAClassStatement n v=pure false
 val:∀{k:K} {v:Value},knd.is k v=true→∀n,∃b,hashByValue n v=pure b
def rowU (p:Addr × List K):Int × Value:=(tupleKeyHash knd p.2,Value.ref p.1)
structure SetU (h:Heap) (a:Addr) (L:List (Addr × List K)) (es:Array (Int × Value)) (ep:Nat) (t:SetTable):Prop where
 ob:∃o,h.get? a=some o∧o.ExactSet∧o.data=.set es ep t
 rows:es.toList=L.map (rowU knd)
 tab:TabOk t (L.map fun p=>tupleKeyHash knd p.2)
 nd:(L.map (·.2)).Nodup
 led:w.params.followText "set-order" = true∨t.led=true
 room:L.length * 5 < t.mask * 3
 few:L.length < 64
def QL (h:Heap) (L:List (Addr × List K)):Prop:=∀p∈L,IsTupleKey knd h p.2 p.1
variable {knd} {A:Around} {E:Value→Shared→Prop} {s:Shared} {a:Addr} {L:List (Addr × List K)} {es:Array (Int × Value)} {ep:Nat} {t:SetTable}
theorem JbS {k:List K} {vs:List Value} (h:ItemsAre knd k vs):∀v∈vs,∃i,knd.is i v=true:=by
 induction h with
 | nil=>exact fun v hv=>nomatch hv
 | cons h1 _ ih=>exact fun v hv=>(List.mem_cons.mp hv).elim (fun e=>⟨_,e ▸ h1⟩) (ih v)
theorem IsTupleKey.kept {h h':Heap} {k:List K} {b:Addr} (x:IsTupleKey knd h k b) (hk:∀o,h.get? b=some o→h'.get? b=some o):IsTupleKey knd h' k b:=by
 obtain⟨o,items,n,ho,r⟩:=x
 exact⟨o,items,n,hk o ho,r⟩
theorem JbA (F0:Flat knd) {k:List K} {b:Addr} {Q:Bool→Shared→Prop} (hk:IsTupleKey knd s.heap k b) (h:Q false s):wpAny (model P w) A (ofAClassStatement 8 (.ref b)) Q E s:=by
 have ty:=hk.typeIs
 obtain⟨o,items,n,ho,_,hd,hi⟩:=hk
 unfold ofAClassStatement
 refine wpAny_bind (wpAny_typeOf ty ?_)
 dsimp only
 have e:(("tuple" : String) == "tuple")=true:=by decide
 simp only[e,if_true,Bool.not_true,Bool.false_eq_true,if_false]
 try refine wpAny_bind (wpAny_pure ?_)
 try simp only[Bool.not_true,Bool.false_eq_true,if_false]
 show wpAny _ _ (seqItems? (.ref b) >>= _) _ _ s
 refine wpAny_bind (wpAny_seqItems ho hd ?_)
 dsimp only
 refine wpAny_bind ?_
 show wpAny _ _ (forIn items _ _) _ _ s
 rw[←Array.forIn_toList]
 refine wpAny_forIn_list _ (fun rest r s'=>r.1=none∧s'=s∧∀v∈rest,∃i,knd.is i v=true) _ ?_ ?_ _ _ ⟨rfl,rfl,JbS hi⟩
 ·rintro v rest r s' ⟨hr,rfl,all⟩
  obtain⟨i,hv⟩:=all v List.mem_cons_self
  rw[F0.cls hv]
  refine wpAny_bind (wpAny_pure ?_)
  simp only[Bool.false_eq_true,if_false]
  exact wpAny_pure ⟨rfl,rfl,fun u hu=>all u (List.mem_cons_of_mem _ hu)⟩
 ·rintro ⟨r1,r2⟩ s' ⟨hr,rfl,_⟩
  obtain rfl:r1=none:=hr
  exact wpAny_pure h
theorem flat_val (F0:Flat knd) {k:List K} {b:Addr} {Q:Bool→Shared→Prop} (hk:IsTupleKey knd s.heap k b) (h:∀b,Q b s):wpAny (model P w) A (hashByValue 8 (.ref b)) Q E s:=by
 have ty:=hk.typeIs
 obtain⟨o,items,n,ho,_,hd,hi⟩:=hk
 unfold hashByValue
 refine wpAny_bind (wpAny_specialOf ty F.slot_tuple_hash.lookup ?_)
 show wpAny _ _ (seqItems? (.ref b) >>= _) _ _ s
 refine wpAny_bind (wpAny_seqItems ho hd ?_)
 refine wpAny_bind ?_
 show wpAny _ _ (forIn items _ _) _ _ s
 rw[←Array.forIn_toList]
 refine wpAny_forIn_list _ (fun rest r s'=>r.1=none∧s'=s∧∀v∈rest,∃i,knd.is i v=true) _ ?_ ?_ _ _ ⟨rfl,rfl,JbS hi⟩
 ·rintro v rest r s' ⟨hr,rfl,all⟩
  obtain⟨i,hv⟩:=all v List.mem_cons_self
  obtain⟨x,hx⟩:=F0.val hv 7
  rw[hx]
  refine wpAny_bind (wpAny_pure ?_)
  cases x with
  | true =>
   simp only[Bool.not_true,Bool.false_eq_true,if_false]
   exact wpAny_pure ⟨rfl,rfl,fun u hu=>all u (List.mem_cons_of_mem _ hu)⟩
  | false =>
   simp only[Bool.not_false,if_true]
   exact wpAny_pure (wpAny_pure (h false))
 ·rintro ⟨r1,r2⟩ s' ⟨hr,rfl,_⟩
  obtain rfl:r1=none:=hr
  exact wpAny_pure (h true)
theorem flat_val_if (F0:Flat knd) {k:List K} {b:Addr} {pl:Bool} {α:Type} {f:Bool→Sem α} {Q:α→Shared→Prop} (hk:IsTupleKey knd s.heap k b) (h:∀b,wpAny (model P w) A (f b) Q E s):wpAny (model P w) A (if pl=true then hashByValue 8 (.ref b) >>= f else f true) Q E s:=by
 split
 ·exact wpAny_bind (flat_val F0 hk h)
 ·exact h true
theorem tab_plain {t:SetTable} {hs:List Int} (T:TabOk t hs) (b:Bool):TabOk { t with plain:=b } hs:=match T with
 | ⟨a,b,c,d,e,f⟩=>⟨a,b,c,d,e,f⟩
theorem flat_seen (F0:Flat knd) {k:List K} {b:Addr} {Q:Bool→Shared→Prop} (hk:IsTupleKey knd s.heap k b) {ys:List Value} (hy:∀y∈ys,∃k' c,y=Value.ref c∧IsTupleKey knd s.heap k' c) (h:Q false s) :
  wpAny (model P w) A (searchCouldBeSeen (.ref b) ys) Q E s:=by
 unfold searchCouldBeSeen
 refine wpAny_bind ?_
 refine wpAny_forIn_list _ (fun rest r s'=>r.1=none∧s'=s∧∀y∈rest,∃k' c,y=Value.ref c∧IsTupleKey knd s.heap k' c) _ ?_ ?_ _ _ ⟨rfl,rfl,hy⟩
 ·rintro v rest r s' ⟨hr,rfl,all⟩
  obtain⟨k',c,rfl,hc⟩:=all v List.mem_cons_self
  have more:∀y∈rest,∃k' c,y=Value.ref c∧IsTupleKey knd s'.heap k' c:=fun u hu=>all u (List.mem_cons_of_mem _ hu)
  dsimp only
  by_cases hv:(b == c || (carriedByValue (.ref b) && carriedByValue (.ref c)))=true
  ·exact wp_if_pos hv (wpAny_pure ⟨rfl,rfl,more⟩)
  ·refine wp_if_neg hv (wpAny_bind (wpAny_eqIsQuiet_tuple hk ?_))
   simp only[Bool.not_true,Bool.false_eq_true,if_false]
   refine wpAny_bind (wpAny_eqIsQuiet_tuple hc ?_)
   simp only[Bool.not_true,Bool.false_eq_true,if_false]
   refine wpAny_bind (JbA F0 hk ?_)
   simp only[Bool.false_eq_true,if_false]
   refine wpAny_bind (JbA F0 hc ?_)
   simp only[Bool.false_eq_true,if_false]
   exact wpAny_pure ⟨rfl,rfl,more⟩
 ·rintro ⟨r1,r2⟩ s' ⟨hr,rfl,_⟩
  obtain rfl:r1=none:=hr
  exact wpAny_pure h
theorem SetU.size (R:SetU knd s.heap a L es ep t):es.size=L.length:=by
 rw[←Array.length_toList,R.rows,List.length_map]
theorem SetU.plc (R:SetU knd s.heap a L es ep t):t.place.size=L.length:=by
 have:=R.tab.sz
 rwa[List.length_map]at this
theorem SetU.fits (R:SetU knd s.heap a L es ep t):t.fits es.size=true:=by
 have h1:=R.plc
 have h2:=R.size
 have h3:=R.room
 unfold SetTable.fits SetTable.fill
 rw[R.tab.dm,Bool.and_eq_true,beq_iff_eq,decide_eq_true_eq]
 exact(show t.place.size=es.size∧t.place.size+0≤t.mask by omega)
theorem SetU.at (R:SetU knd s.heap a L es ep t) {i:Nat} {p:Addr × List K} (h:L[i]?=some p):es[i]?=some (tupleKeyHash knd p.2,Value.ref p.1):=by
 rw[←Array.getElem?_toList,R.rows,List.getElem?_map,h];rfl
theorem SetU.kept {h h':Heap} (R:SetU knd h a L es ep t) (k:∀o,h.get? a=some o→h'.get? a=some o):SetU knd h' a L es ep t:=by
 obtain⟨o,ho,r⟩:=R.ob
 exact⟨⟨o,k o ho,r⟩,R.rows,R.tab,R.nd,R.led,R.room,R.few⟩
theorem QL.kept {h h':Heap} (T:QL knd h L) (k:∀b o,h.get? b=some o→h'.get? b=some o):QL knd h' L:=fun p hp=>IsTupleKey.kept (T p hp) (k p.1)
abbrev stU (m:Nat) (h:Int) (c:Nat):SetTable.Probe:=nth m (runAt m (SetTable.bits h % (m+1)) (SetTable.bits h)) c
theorem Jcu (m:Nat) (h:Int) (c q:Nat):nth m (stU m h c) q=stU m h (c+q):=(nth_add m c _ q).symm
theorem Jc5 (m:Nat):∀(n:Nat) (p:SetTable.Probe),p.dummy=none→(nth m p n).dummy=none
 | 0,_,h=>h
 | n+1,p,h=>Jc5 m n (adv m p) (by unfold adv;split<;>exact h)
theorem searchU (F0:Flat knd) (R:SetU knd s.heap a L es ep t) (T:QL knd s.heap L) {x:Addr} {k:List K} (hx:IsTupleKey knd s.heap k x) (hu:A.units < cLine) {Z:Nat} (hZf:Z < 10 * SetTable.turns t.mask)
  (hZ:way t.mask (tupleKeyHash knd k) Z∉t.place.toList) (hZb:∀c,c < Z→way t.mask (tupleKeyHash knd k) c∈t.place.toList) {Q:SetFound→Shared→Prop}
  (hin:k∈L.map (·.2)→Q (.there none) s) (hout:k∉L.map (·.2)→Q (.free (way t.mask (tupleKeyHash knd k) Z) false) s) :
  ∀(f c:Nat) (stand:Option SetTable.Probe),stand.getD (t.probeStart (tupleKeyHash knd k))=stU t.mask (tupleKeyHash knd k) c→c≤Z→Z - c < f →
   (∀(i:Nat) (p:Addr × List K),L[i]?=some p→p.2=k→∃c',c≤c'∧c' < Z∧t.place.toList[i]?=some (way t.mask (tupleKeyHash knd k) c')) →
   wpAny (model P w) A (setSearchFrom a (.ref x) (tupleKeyHash knd k) true f stand) Q E s:=by
 obtain⟨o,ho,hex,hd⟩:=R.ob
 have gw:¬ t.gaveWay=true:=by unfold SetTable.gaveWay;rw[mask_odd R.tab.mok];decide
 have hashAt:∀(i:Nat) (p:Addr × List K),L[i]?=some p→(es[i]?.map (fun e:Int × Value=>e.1)).getD 0=tupleKeyHash knd p.2:=fun i p hp=>by rw[R.at hp];rfl
 intro f
 induction f with
 | zero=>intro c stand _ _ hf _;exact absurd hf (Nat.not_lt_zero _)
 | succ f ih =>
  intro c stand hst hc hf hre
  have e1:∀q,(nth t.mask (stU t.mask (tupleKeyHash knd k) c) q).j=way t.mask (tupleKeyHash knd k) (c+q):=fun q=>congrArg SetTable.Probe.j (Jcu t.mask (tupleKeyHash knd k) c q)
  have miss:∀{n:Nat},(∀(q i:Nat),q < n→t.place.toList[i]?=some (nth t.mask (stU t.mask (tupleKeyHash knd k) c) q).j→(es[i]?.map (fun e:Int × Value=>e.1)).getD 0=tupleKeyHash knd k→False)→∀(i:Nat) (p:Addr × List K) (c':Nat),L[i]?=some p→p.2=k→c≤c'→c' < c+n→t.place.toList[i]?=some (way t.mask (tupleKeyHash knd k) c')→False :=
   fun hno i p c' hp hpk h1 h2 h3=>hno (c' - c) i (by omega) (by rw[e1,show c+(c' - c)=c' by omega];exact h3) ((hashAt i p hp).trans (congrArg _ hpk))
  rw[setSearchFrom_succ]
  refine wpAny_bind (wpAny_setState_of ho hd R.fits ?_)
  dsimp only
  refine wp_if_neg gw ?_
  try refine wpAny_bind (wpAny_pure ?_)
  rcases go_spec t R.tab.ris R.tab.dm (fun i=>(es[i]?.map (·.1)).getD 0) (tupleKeyHash knd k) (10 * SetTable.turns t.mask) (Z - c) (stU t.mask (tupleKeyHash knd k) c) (Jc5 _ _ _ rfl) (by omega)
   (fun q hq=>by rw[e1];exact hZb (c+q) (by omega)) (by rw[e1,show c+(Z - c)=Z by omega];exact hZ) with ⟨q,i,hq,hi,hh,hno,hpr⟩ | ⟨hno,hpr⟩
  ·have hpr':t.probe (fun i=>(es[i]?.map (·.1)).getD 0) (tupleKeyHash knd k) (stand.getD (t.probeStart (tupleKeyHash knd k)))=some (.candidate (way t.mask (tupleKeyHash knd k) (c+q)) i (stU t.mask (tupleKeyHash knd k) (c+(q+1)))):=by
    rw[hst,←e1,←Jcu];exact hpr
   rw[hpr']
   dsimp only
   rw[e1]at hi
   have hil:i < L.length:=by
    have h1:i < t.place.toList.length:=(List.getElem?_eq_some_iff.mp hi).1
    rw[Array.length_toList,R.plc]at h1
    exact h1
   obtain⟨p,hp⟩:∃p,L[i]?=some p:=⟨_,List.getElem?_eq_getElem hil⟩
   have hmem:p∈L:=List.mem_of_getElem? hp
   have rest:wpAny (model P w) A (searchRest a (.ref x) (tupleKeyHash knd k) true f es t (way t.mask (tupleKeyHash knd k) (c+q)) i (stU t.mask (tupleKeyHash knd k) (c+(q+1)))) Q E s:=by
    unfold searchRest
    rw[R.at hp]
    dsimp only
    refine wpAny_bind (wpAny_holding (wpAny_eqBool_tuple hu (T p hmem) hx ?_))
    refine wpAny_bind (wpAny_setState_of ho hd R.fits ?_)
    dsimp only
    by_cases hkk:p.2=k
    ·exact wp_if_pos (by simp[hkk]) (wpAny_pure (hin (List.mem_map.mpr ⟨p,hmem,hkk⟩)))
    ·refine wp_if_neg (by simp[hkk]) ?_
     try refine wpAny_bind (wpAny_pure ?_)
     rw[sameMem]
     dsimp only
     have hsl:t.slot (way t.mask (tupleKeyHash knd k) (c+q))=.live i:=slot_live R.tab.ris hi
     simp only[if_true,hsl,R.at hp]
     refine wpAny_bind (wpAny_isSame_ref_self (wpAny_bind (wpAny_pure ?_)))
     simp only[if_true]
     refine wp_if_neg (by simp[hkk]) (ih (c+(q+1)) _ rfl (by omega) (by omega) fun i0 p0 h0 hk0=>?_)
     obtain⟨c',a1,a2,a3⟩:=hre i0 p0 h0 hk0
     refine⟨c',?_,a2,a3⟩
     rcases Nat.lt_trichotomy c' (c+q) with z | z | z
     ·exact(miss (n:=q) (fun q' i' h1 h2 h3=>hno q' i' h1 h2 h3) i0 p0 c' h0 hk0 a1 z a3).elim
     ·rw[z]at a3
      have s0:=slot_live R.tab.ris a3
      rw[hsl]at s0
      injection s0 with s0
      rw[←s0,hp]at h0
      exact absurd ((congrArg Prod.snd (Option.some.inj h0)).trans hk0) hkk
     ·omega
   by_cases hl:t.led=true
   ·refine wp_if_neg (by simp[hl]) ?_
    try refine wpAny_bind (wpAny_pure ?_)
    exact rest
   ·refine wp_if_pos (by simp[hl]) (wpAny_bind (flat_seen F0 hx (fun y hy=>?_) ?_))
    ·obtain⟨e,he,rfl⟩:=List.mem_map.mp hy
     have he1:e∈es∧e.1=tupleKeyHash knd k:=by simpa using he
     have he2:e∈es.toList:=by simpa using he1.1
     rw[R.rows]at he2
     obtain⟨p2,hp2,rfl⟩:=List.mem_map.mp he2
     exact⟨p2.2,p2.1,rfl,T p2 hp2⟩
    ·refine wp_if_neg (by decide) ?_
     try refine wpAny_bind (wpAny_pure ?_)
     exact rest
  ·have hpr':t.probe (fun i=>(es[i]?.map (·.1)).getD 0) (tupleKeyHash knd k) (stand.getD (t.probeStart (tupleKeyHash knd k)))=some (.empty (way t.mask (tupleKeyHash knd k) Z) none):=by
    have e2:=e1 (Z - c)
    rw[show c+(Z - c)=Z by omega]at e2
    rw[hst,←e2];exact hpr
   rw[hpr']
   dsimp only
   refine wpAny_pure (hout fun hm=>?_)
   obtain⟨p0,h0,hk0⟩:=List.mem_map.mp hm
   obtain⟨i0,hi0,e0⟩:=List.getElem_of_mem h0
   have h00:L[i0]?=some p0:=by rw[List.getElem?_eq_getElem hi0,e0]
   obtain⟨c',a1,a2,a3⟩:=hre i0 p0 h00 hk0
   exact miss (n:=Z - c) (fun q' i' h1 h2 h3=>hno q' i' h1 h2 h3) i0 p0 c' h00 hk0 a1 (by omega) a3
theorem searchU_at (F0:Flat knd) (R:SetU knd s.heap a L es ep t) (T:QL knd s.heap L) {x:Addr} {k:List K} (hx:IsTupleKey knd s.heap k x) (hu:A.units < cLine) {Q:SetFound→Shared→Prop}
  (hin:k∈L.map (·.2)→Q (.there none) s)
  (hout:∀Z,k∉L.map (·.2)→way t.mask (tupleKeyHash knd k) Z∉t.place.toList→(∀c,c < Z→way t.mask (tupleKeyHash knd k) c∈t.place.toList)→Q (.free (way t.mask (tupleKeyHash knd k) Z) false) s) :
  wpAny (model P w) A (setSearch a (.ref x) (tupleKeyHash knd k) true) Q E s:=by
 have hroom:=R.room
 obtain⟨Z,hZf,hZ,hZb⟩:=R.tab.first (by rw[List.length_map];omega) (tupleKeyHash knd k)
 have hbig:Z < 100000:=by
  have:10 * SetTable.turns t.mask≤1420:=by
   unfold SetTable.turns
   rcases R.tab.mok with e | e | e<;>omega
  omega
 unfold setSearch
 refine searchU F0 R T hx hu hZf hZ hZb hin (fun hn=>hout Z hn hZ hZb) 100000 0 none rfl (Nat.zero_le _) (by omega) fun i p hp hk=>?_
 have hi:(L.map fun p=>tupleKeyHash knd p.2)[i]?=some (tupleKeyHash knd k):=by rw[List.getElem?_map,hp,←hk];rfl
 have hil:i < t.place.toList.length:=by
  have h1:i < L.length:=(List.getElem?_eq_some_iff.mp hp).1
  rw[Array.length_toList,R.plc];exact h1
 have hj:=List.getElem?_eq_getElem hil
 obtain⟨c,hc,e⟩:=R.tab.before hZ hi hj
 exact⟨c,Nat.zero_le _,hc,by rw[hj,e]⟩
end
end VS
set_option maxHeartbeats 6400000
namespace VS
open PySem L2 SeqAt PySem.Spec PyProof.Rows
section
variable {P:Program} {w:World} {K:Type} [DecidableEq K] {knd:KeyKind P w K} {A:Around} {E:Value→Shared→Prop} {s:Shared} {a:Addr} {L:List (Addr × List K)} {es:Array (Int × Value)} {ep:Nat} {t:SetTable}
theorem filter_range {α:Type} (L:List α):(List.range L.length).filterMap (fun i=>L[i]?)=L:=by
 have e:(List.range L.length).map (fun i=>L[i]?)=L.map some:=by
  refine List.ext_getElem (by simp) fun i h1 h2=>?_
  simp at h1
  simp[h1]
 have q:(List.range L.length).filterMap (fun i=>L[i]?)=((List.range L.length).map fun i=>L[i]?).filterMap id:=by rw[List.filterMap_map];rfl
 rw[q,e,List.filterMap_map]
 exact List.filterMap_some
theorem Zi {α β:Type} {f:α→Option β} {g:α→β}:∀{l:List α},(∀x∈l,f x=some (g x))→l.filterMap f=l.map g
 | [],_=>rfl
 | x::l,h=>by
  rw[List.filterMap_cons_some (h x (by simp)),List.map_cons,Zi fun y hy=>h y (by simp[hy])]
theorem rows_order (hr:es.toList=L.map (rowU knd)) {order:Array Nat} (hp:order.toList.Perm (List.range L.length)) :
  ∃L2:List (Addr × List K),(order.filterMap (es[·]?)).toList=L2.map (rowU knd)∧L2.Perm L∧(L2.map fun p=>tupleKeyHash knd p.2)=order.toList.map fun i=>(es.map (·.1)).getD i 0:=by
 have at_:∀i:Nat,es[i]?=L[i]?.map (rowU knd):=fun i=>by rw[←Array.getElem?_toList,hr,List.getElem?_map]
 refine⟨order.toList.filterMap fun i=>L[i]?,?_,?_,?_⟩
 ·rw[List.map_filterMap,Array.toList_filterMap]
  congr 1
  funext i;exact at_ i
 ·have:=hp.filterMap fun i=>L[i]?
  rwa[filter_range]at this
 ·rw[List.map_filterMap]
  refine Zi fun i hi=>?_
  have lt:i < L.length:=List.mem_range.mp (hp.mem_iff.mp hi)
  have e5:(es.map (·.1))[i]?=some (tupleKeyHash knd L[i].2):=by rw[Array.getElem?_map,at_,List.getElem?_eq_getElem lt];rfl
  rw[List.getElem?_eq_getElem lt,Array.getD_eq_getD_getElem?,e5];rfl
theorem relayU {o:Obj} (ho:s.heap.get? a=some o) (hex:o.ExactSet) (hd:o.data=.set es ep t) (hrows:es.toList=L.map (rowU knd)) (hsz:t.place.size=es.size) (hdm:t.dummies=#[]) (hfl:es.size≤t.mask)
  (nd:(L.map (·.2)).Nodup) (ld:w.params.followText "set-order" = true∨t.led=true) (few:L.length < 64) {wanted M:Nat}
  (hw:SetTable.sizeAbove wanted - 1=M) (hM:MaskOk M) (hw2:SetTable.sizeAbove wanted≤128) (hn:L.length * 5 < M * 3) {Q:Unit→Shared→Prop}
  (hQ:∀h' L' es' ep' t',Heap.SameBut a s.heap h'→SetU knd h' a L' es' ep' t'→L'.Perm L→Q () { s with heap:=h' }):wpAny (model P w) A (setRelay a wanted) Q E s:=by
 have hsl:es.size=L.length:=by rw[←Array.length_toList,hrows,List.length_map]
 have hfits:t.fits es.size=true:=by
  unfold SetTable.fits SetTable.fill
  rw[hdm,Bool.and_eq_true,beq_iff_eq,decide_eq_true_eq]
  exact(show t.place.size=es.size∧t.place.size+0≤t.mask by omega)
 obtain⟨t',order,e,hp,T,em,el,ep',ed⟩:=relaid_ok t (hs:=es.map (·.1)) (wanted:=wanted) hw hM (by rw[Array.size_map,hsl];omega)
 rw[Array.size_map,hsl]at hp
 obtain⟨L2,r1,r2,r3⟩:=rows_order hrows hp
 rw[←r3]at T
 have hs2:(order.filterMap (es[·]?)).size=es.size:=by rw[←Array.length_toList,r1,List.length_map,r2.length_eq,hsl]
 rw[setRelay_eq]
 refine wpAny_bind (wpAny_setState_of ho hd hfits ?_)
 dsimp only
 refine wp_if_neg (by rw[sizeLine_eq];omega) ?_
 try refine wpAny_bind (wpAny_pure ?_)
 rw[e]
 dsimp only
 refine wpAny_bind ?_
 refine wp_if_neg (by rw[hs2];simp) ?_
 try refine wpAny_bind (wpAny_pure ?_)
 refine wpAny_pure ?_
 dsimp only
 refine wpAny_storeSet_of ho hd ?_ (by rw[hs2,hsl,sizeLine_eq];omega)
 exact hQ _ L2 (order.filterMap (es[·]?)) (ep+1) t' (Heap.SameBut.update ..) ⟨⟨_,store_at ho hd,⟨hex.1,hex.2.1,hex.2.2⟩,rfl⟩,r1,T,(r2.map (·.2)).nodup_iff.mpr nd,by rw[el];exact ld,by rw[r2.length_eq,em];exact hn,by rw[r2.length_eq];exact few⟩ r2
theorem addU (F0:Flat knd) (R:SetU knd s.heap a L es ep t) (T:QL knd s.heap L) {x:Addr} {k:List K} (hx:IsTupleKey knd s.heap k x) (hu:A.units < cLine) (hfew:L.length+1 < 64) {Q:Bool→Shared→Prop}
  (hQ:∀b h' L' es' ep' t',Heap.SameBut a s.heap h'→SetU knd h' a L' es' ep' t'→(k∈L.map (·.2)→L'=L)→(k∉L.map (·.2)→L'.Perm ((x,k)::L))→Q b { s with heap:=h' }) :
  wpAny (model P w) A (setAddHashed a (.ref x) (tupleKeyHash knd k)) Q E s:=by
 obtain⟨o,ho,hex,hd⟩:=R.ob
 have hsl:=R.size
 have hroom:=R.room
 unfold setAddHashed
 refine wpAny_holding ?_
 rw[show (100000:Nat)=99999+1 from rfl,setAddHashedIn_succ]
 refine wpAny_bind (wpAny_setState_of ho hd R.fits ?_)
 dsimp only
 refine wp_if_neg (by simp[byScan,Value.scannable]) ?_
 try refine wpAny_bind (wpAny_pure ?_)
 refine wpAny_bind (searchU_at F0 R T hx hu (fun hm=>?_) fun Z hm hZ hb=>?_)
 ·dsimp only
  exact wpAny_pure (hQ false s.heap L es ep t (Heap.SameBut.refl a s.heap) R (fun _=>rfl) fun z=>absurd hm z)
 dsimp only
 refine wpAny_bind (wpAny_setState_of ho hd R.fits ?_)
 dsimp only
 obtain⟨q1,q2,q3,q4,q5,q6,q7,q8,q9⟩:=R.tab.put hZ hb
 generalize hpt:t.put (way t.mask (tupleKeyHash knd k) Z)=pt at q1 q3 q4 q5 q6 q7 q8 q9 ⊢
 obtain⟨t1,p⟩:=pt
 dsimp only at q1 q3 q4 q5 q6 q7 q8 q9 ⊢
 subst q1
 refine flat_val_if F0 hx fun bv=>?_
 obtain⟨t2,et2,q3',q4',q5',q9'⟩:∃t2,(if bv=true then t1 else { t1 with plain:=false })=t2∧TabOk t2 (List.take (SetTable.below t.place (way t.mask (tupleKeyHash knd k) Z)) (List.map (fun p=>tupleKeyHash knd p.snd) L)++tupleKeyHash knd k::List.drop (SetTable.below t.place (way t.mask (tupleKeyHash knd k) Z)) (List.map (fun p=>tupleKeyHash knd p.snd) L))∧t2.mask=t.mask∧t2.led=t.led∧t2.fill=(List.map (fun p=>tupleKeyHash knd p.snd) L).length+1:=by
  cases bv with
  | true=>exact⟨t1,rfl,q3,q4,q5,q9⟩
  | false=>exact⟨_,rfl,tab_plain q3 false,q4,q5,q9⟩
 simp only[et2]
 clear q3 q4 q5 q6 q7 q8 q9 et2
 have q3:=q3';have q4:=q4';have q5:=q5';have q9:=q9'
 clear q3' q4' q5' q9'
 generalize hpp:SetTable.below t.place (way t.mask (tupleKeyHash knd k) Z)=p at q2 q3 ⊢
 have hin:(SetTable.insertAt es p (tupleKeyHash knd k,Value.ref x)).toList=(L.take p++(x,k)::L.drop p).map (rowU knd):=by
  rw[SetTable.toList_insertAt,R.rows,List.map_append,List.map_cons,List.map_take,List.map_drop];rfl
 have pm:=put_perm L p (x,k)
 have hlen:(L.take p++(x,k)::L.drop p).length=L.length+1:=pm.length_eq
 have hhs:(L.take p++(x,k)::L.drop p).map (fun p=>tupleKeyHash knd p.2)=(L.map fun p=>tupleKeyHash knd p.2).take p++tupleKeyHash knd k::(L.map fun p=>tupleKeyHash knd p.2).drop p:=by
  rw[List.map_append,List.map_cons,List.map_take,List.map_drop]
 rw[←hhs]at q3
 have nd1:((L.take p++(x,k)::L.drop p).map (·.2)).Nodup:=(pm.map (·.2)).nodup_iff.mpr (by rw[List.map_cons];exact List.nodup_cons.mpr ⟨hm,R.nd⟩)
 have hes:(SetTable.insertAt es p (tupleKeyHash knd k,Value.ref x)).size=L.length+1:=by rw[←Array.length_toList,hin,List.length_map,hlen]
 generalize SetTable.insertAt es p (tupleKeyHash knd k,Value.ref x)=es1 at hin hes ⊢
 generalize L.take p++(x,k)::L.drop p=L1 at pm hlen q3 nd1 hin
 refine wpAny_bind (wpAny_storeSet_of ho hd ?_ (by rw[hes,sizeLine_eq];omega))
 have sb:Heap.SameBut a s.heap (s.heap.update a (Obj.putSet es1 t2)):=Heap.SameBut.update ..
 have ho1:=store_at (es':=es1) (t':=t2) ho hd
 generalize s.heap.update a (Obj.putSet es1 t2)=h1 at sb ho1 ⊢
 have ld1:w.params.followText "set-order" = true∨t2.led=true:=by rw[q5];exact R.led
 by_cases hf:t2.tooFull=true
 ·first
   | (refine wpAny_bind ?_;refine wp_if_pos (by simp[hf]) ?_)
   | (refine wp_if_pos (by simp[hf]) ?_;refine wpAny_bind ?_)
  have hfull:(L.length+1) * 5 ≥ t2.mask * 3:=by
   have h:=hf
   unfold SetTable.tooFull at h
   rwa[decide_eq_true_eq,q9,List.length_map]at h
  rw[hsl]
  have hsz1:t2.place.size=es1.size:=by
   have h:=q3.sz
   rw[List.length_map,hlen]at h
   rw[h,hes]
  have which:(t.mask=7∧L.length=4)∨(t.mask=31∧L.length=18):=by
   rw[q4]at hfull
   rcases R.tab.mok with e | e | e<;>rw[e]at hfull hroom
   ·exact .inl ⟨e,by omega⟩
   ·exact .inr ⟨e,by omega⟩
   ·exfalso;omega
  have go:∀M,SetTable.sizeAbove (SetTable.grown (L.length+1)) - 1=M→MaskOk M→SetTable.sizeAbove (SetTable.grown (L.length+1))≤128→(L.length+1) * 5 < M * 3 →
    wpAny (model P w) A (setRelay a (SetTable.grown (L.length+1))) (fun _ s'=>wpAny (model P w) A (pure true) Q E s') E { s with heap:=h1 }:=fun M h1' h2' h3' h4'=>by
   refine relayU (s:={ s with heap:=h1 }) ho1 ⟨hex.1,hex.2.1,hex.2.2⟩ rfl hin hsz1 q3.dm (by rw[hes,q4];rcases which with ⟨e,e2⟩ | ⟨e,e2⟩<;>omega) nd1 ld1 (by rw[hlen];exact hfew) h1' h2' h3' (by rw[hlen];exact h4') ?_
   intro h2 L2 es2 ep2 t3 sb2 R2 pm2
   exact wpAny_pure (hQ true h2 L2 es2 ep2 t3 (sb.trans sb2) R2 (fun z=>absurd z hm) fun _=>pm2.trans pm)
  rcases which with ⟨_,e2⟩ | ⟨_,e2⟩
  ·exact go 31 (by rw[e2,size_20]) (.inr (.inl rfl)) (by rw[e2,size_20];decide) (by omega)
  ·exact go 127 (by rw[e2,size_76]) (.inr (.inr rfl)) (by rw[e2,size_76];decide) (by omega)
 ·first
   | refine wp_if_neg (by simp[hf]) ?_
   | (refine wpAny_bind ?_;refine wp_if_neg (by simp[hf]) ?_;refine wpAny_pure ?_)
  refine wpAny_pure (hQ true h1 L1 es1 (ep+1) t2 sb ⟨⟨_,ho1,⟨hex.1,hex.2.1,hex.2.2⟩,rfl⟩,hin,q3,nd1,ld1,?_,by rw[hlen];exact hfew⟩ (fun z=>absurd z hm) fun _=>pm)
  have h:=hf
  unfold SetTable.tooFull at h
  rw[decide_eq_true_eq,q9,List.length_map]at h
  rw[hlen]
  omega
end
structure SetRunH (P:Program) (w:World) (n:Nat) (Vl:Nat→Value→Prop) (H0:Heap) (Sp:Nat→Heap→Addr→Prop):Prop where
 start:∀{h:Heap} {a:Addr},h.get? a=some (set0 w)→Sp 0 h a
 keep:∀{i:Nat} {h h':Heap} {a:Addr},Sp i h a→(∀o,h.get? a=some o→h'.get? a=some o)→Sp i h' a
 add:∀{i:Nat} {a:Addr} {v:Value} {A:Around} {E:Value→Shared→Prop} {s:Shared} {Q:Bool→Shared→Prop},i < n→Sp i s.heap a→Vl i v→(∀b o,H0.get? b=some o→s.heap.get? b=some o)→A.units < cLine →
  (∀(b:Bool) (h':Heap) (tk:Nat),Heap.SameBut a s.heap h'→s.toks≤tk→Sp (i+1) h' a→Q b { s with heap:=h',toks:=tk })→wpAny (model P w) A (setAdd a v) Q E s
section
variable {P:Program} {w:World} {A:Around} {E:Value→Shared→Prop} {s:Shared}
theorem SetRunH.loop {H0:Heap} {Sp:Nat→Heap→Addr→Prop} {Vl Pv:Nat→Value→Prop} {I S:Addr} {fp wr:List Addr} {g:Array GenState→Array GenState→Prop} {n:Nat} {St:Nat→Shared→Prop} {R:Result→Shared→Prop} (G:SetRunH P w n Vl H0 Sp)
  (Wk:WalksS P w A.in1 I fp wr g n Pv St) (nS:S∉fp) (hv:∀i v,Pv i v→Vl i v) (hS0:H0.get? S=none) (hw0:∀b∈wr,H0.get? b=none) (hu:A.in1.units < cLine) :
  ∀(k i:Nat) (t:Shared),n - i=k→i≤n→St i t→Sp i t.heap S→(∀b o,H0.get? b=some o→t.heap.get? b=some o)→(∀t',Moved (S::wr) g t t'→Sp n t'.heap S→R (.ok (.ret .none)) t')→codeAny (model P w) A (.builtin "set.update.loop" ⟨[.ref S,.ref I],[]⟩) R t:=by
 have nW:S∉wr:=fun h=>nS (Wk.sub _ h)
 have up:∀b∈wr,b∈S::wr:=fun b hb=>List.mem_cons_of_mem _ hb
 have kp:∀{t t':Shared},Moved wr g t t'→(∀b o,H0.get? b=some o→t.heap.get? b=some o)→∀b o,H0.get? b=some o→t'.heap.get? b=some o:=fun hm hk b o e =>
  hm.heap b o (fun hb=>by rw[hw0 b hb]at e;cases e) (hk b o e)
 intro k
 induction k with
 | zero =>
  intro i t hk hi hst sp hkp fin
  obtain rfl:i=n:=by omega
  refine codeAny_builtin F.entry_set_update_loop ?_
  rw[Around.under_plainId F.plain_set_update_loop _]
  refine (show wpAny _ A.in1 (pyNext (.ref I) >>= _) _ _ t from wpAny_bind (Wk.done t _ _ hst fun t' hm=>?_))
  exact(show wpAny _ A.in1 (ret Value.none) _ _ t' from wpAny_pure (fin t' (hm.mono up) (G.keep sp fun o e=>hm.heap S o nW e)))
 | succ k ih =>
  intro i t hk hi hst sp hkp fin
  have lt:i < n:=by omega
  refine codeAny_builtin F.entry_set_update_loop ?_
  rw[Around.under_plainId F.plain_set_update_loop _]
  refine (show wpAny _ A.in1 (pyNext (.ref I) >>= _) _ _ t from wpAny_bind (Wk.item i t _ _ lt hst fun v t' hP hst' hm=>?_))
  refine (show wpAny _ A.in1 (holding [v] (setAdd S v) >>= _) _ _ t' from wpAny_bind (wpAny_holding ?_))
  refine G.add lt (G.keep sp fun o e=>hm.heap S o nW e) (hv i v hP) (kp hm hkp) hu fun b h' tk sb htk sp'=>?_
  refine wpAny_pure ⟨plainId_quiet F.plain_set_update_loop _,ih (i+1) _ (by omega) lt (Wk.frame _ t' _ _ hst' htk fun b hb o e=>?_) sp' (fun b o e=>?_) fun t2 hm2 sp2=>fin t2 (Moved.trans Wk.gtrans ((hm.mono up).then_heap htk fun b o hb e=>?_) hm2) sp2⟩
  ·rw[sb.2 b (fun z:b=S=>nS (z ▸ hb))];exact e
  ·rw[sb.2 b (fun z:b=S=>by rw[z,hS0]at e;cases e)];exact kp hm hkp b o e
  ·rw[sb.2 b (fun z:b=S=>hb (by rw[z];exact List.mem_cons_self))];exact e
theorem call_set_lstH {Sp:Nat→Heap→Addr→Prop} {Vl:Nat→Value→Prop} {l:Addr} {its:Array Value} {Q:Value→Shared→Prop} (G:SetRunH P w its.size Vl s.heap Sp) (nh:A.handled=none) (hu:A.units+3 < cLine) (hl:s.heap.IsList l its) (hv:∀i v,its[i]?=some v→Vl i v)
  (done:∀(h':Heap) (tk:Nat),Sp its.size h' s.heap.objs.size→(∀b o,s.heap.get? b=some o→h'.get? b=some o)→Q (.ref s.heap.objs.size) { s with heap:=h',toks:=tk }) :
  wpAny (model P w) A (call (.type "set") [.ref l]) Q E s:=by
 have none_of:∀b,s.heap.objs.size≤b→s.heap.get? b=none:=fun b hb=>by
  cases q:s.heap.get? b with
  | none=>rfl
  | some o=>exact absurd (Nat.lt_of_lt_of_le (Heap.lt_size q) hb) (Nat.lt_irrefl _)
 obtain⟨_,_,facts_mro⟩:=F.called_set.mro
 have facts_made:=F.called_set.made
 have facts_sub:=F.called_set.sub
 refine wpAny_call (codeAny_of_tree (show wpAny _ _ (callAny (.type "set") _) _ _ _ from ?_))
 refine wpAny_pure ⟨Code.quiet_builtin _ (by decide +kernel),codeAny_builtin F.entry_type_call ?_⟩
 rw[Around.under_plain (weight_type_call_type "set" [.ref l] []) rfl]
 have facts_nt:=F.called_set.notType
 have facts_cc:=F.called_set.canCreate
 have facts_tc:=F.typeCall_set_1 (.ref l)
 repeat (any_goals (first | assumption | wp_step))
 refine codeAny_mono (L2.code_set_led1 (.ref l) (E:=E) (Q₁:=fun ob t1=>ob=.ref s.heap.objs.size∧t1={ s with heap:=s.heap.push (set0 w) }) ⟨rfl,rfl⟩) fun out t1 hr=>?_
 rcases out with e | fl
 ·exact hr
 cases fl with
 | ret ob =>
  obtain⟨rfl,rfl⟩:=hr
  have at0:(s.heap.push (set0 w)).get? s.heap.objs.size=some (set0 w):=Heap.get?_push_size _ rfl
  have ty0:Shared.TypeIs { s with heap:=s.heap.push (set0 w) } (.ref s.heap.objs.size) "set" := ⟨_,at0,rfl⟩
  have facts_il:=F.called_set.init.lookup
  have facts_ib:=F.called_set.init.bind (.ref s.heap.objs.size)
  repeat (any_goals (first | assumption | wp_step))
  refine codeAny_mono (codeAny_call_builtin (R:=wants (fun r t2=>r=.none∧∃h' tk,t2={ s with heap:=h',toks:=tk }∧Sp its.size h' s.heap.objs.size∧(∀b o,s.heap.get? b=some o→h'.get? b=some o)) E)
   F.called_set.init.plain F.entry_set_init (check_set_init_1 ty0 ?_)) fun out2 t2 hr2=>?_
  ·obtain⟨ol,hol,hcl,nl,hdl⟩:=hl
   obtain⟨oc,od,odt,osl⟩:=ol
   simp only at hcl hdl
   subst hcl hdl
   have hol':(s.heap.push (set0 w)).get? l=some { cls:=.type "list", dict:=od,data:=.seq its nl,slots:=osl }:=Heap.get?_push_of_some _ hol
   have facts_s1:=F.sub_list_set
   have facts_s2:=F.sub_list_frozenset
   have facts_ne:(Value.type "list" == Value.type "dict")=false:=by decide
   have hl1:(s.heap.push (set0 w)).IsList l its:=⟨_,hol',rfl,nl,rfl⟩
   unfold Builtin.«set.__init__» noKeywords Builtin.Frozenset.updateFrom
   generalize hIT:pyIter=IT
   wp_walk
   subst hIT
   refine wpAny_pyIter_list hl1 (wpAny_bind (wpAny_runValue ?_))
   have lt:l < s.heap.objs.size:=Heap.lt_size hol
   have sz:(s.heap.push (set0 w)).objs.size=s.heap.objs.size+1:=Heap.size_push ..
   have nI:l≠(s.heap.push (set0 w)).objs.size:=by rw[Heap.size_push];exact Nat.ne_of_lt (Nat.lt_succ_of_lt lt)
   have nS:s.heap.objs.size∉[(s.heap.push (set0 w)).objs.size,l]:=by
    rw[Heap.size_push];simp only[List.mem_cons,List.not_mem_nil,or_false,not_or]
    exact⟨Nat.ne_of_lt (Nat.lt_succ_self _),Nat.ne_of_gt lt⟩
   refine G.loop ((Walks.list (by simp[nh]) _ l nI its).toS) nS hv (none_of _ (Nat.le_refl _)) (fun b hb=>none_of b (by rw[List.mem_singleton.mp hb,Heap.size_push];exact Nat.le_succ _)) hu (its.size - 0) 0 _ (by omega) (Nat.zero_le _) ⟨⟨_,Heap.get?_push_size _ rfl,rfl,rfl⟩,hl1.push _⟩ (G.start (Heap.get?_push_of_some _ at0)) (fun b o e=>Heap.get?_push_of_some _ (Heap.get?_push_of_some _ e)) fun t3 hm st=>?_
   obtain⟨h3,g3,d3,tk3,os3⟩:=t3
   obtain rfl:g3=s.gens:=hm.gens
   obtain rfl:d3=s.drawn:=hm.drawn
   obtain rfl:os3=s.os:=hm.os
   show wpAny _ _ _ _ _ _
   refine wpAny_pure (show wpAny _ _ (ret Value.none) _ _ _ from wpAny_pure ⟨rfl,h3,tk3,rfl,st,fun b o e=>?_⟩)
   have lb:b < s.heap.objs.size:=Heap.lt_size e
   exact hm.heap b o (by rw[Heap.size_push];simp only[List.mem_cons,List.not_mem_nil,or_false,not_or];exact⟨Nat.ne_of_lt lb,Nat.ne_of_lt (Nat.lt_succ_of_lt lb)⟩) (Heap.get?_push_of_some _ (Heap.get?_push_of_some _ e))
  ·rcases out2 with e | fl2
   ·exact hr2
   cases fl2 with
   | ret r =>
    obtain⟨rfl,h3,tk3,rfl,st,kp⟩:=hr2
    repeat (any_goals (first | assumption | wp_step))
    exact done _ _ st kp
   | _=>exact hr2.elim
 | _=>exact hr.elim
end
section
variable {P:Program} {w:World} {K:Type} [DecidableEq K] {knd:KeyKind P w K}
structure GotU (ks:List (Addr × List K)) (i:Nat) (L:List (Addr × List K)):Prop where
 sub:∀p∈L,p∈ks.take i
 all:∀p∈ks.take i,p.2∈L.map (·.2)
 len:L.length≤i
theorem runU (F0:Flat knd) (ks:List (Addr × List K)) (hb:ks.length < 64) {H0:Heap} (T:QL knd H0 ks):SetRunH P w ks.length (fun i v=>∃p,ks[i]?=some p∧v=.ref p.1) H0 (fun i h a=>∃L es ep t,SetU knd h a L es ep t∧GotU ks i L) where
 start:=fun {h a} e=>⟨[],#[],0,_,⟨⟨_,e,⟨rfl,rfl,rfl⟩,rfl⟩,rfl,⟨List.Pairwise.nil,rfl,rfl,.inl rfl,fun x hx=>(by cases hx),fun i h j hi=>(by simp at hi)⟩,List.nodup_nil,(by
  show _∨(!w.params.followText "set-order")=true
  cases w.params.followText "set-order"
  ·exact .inr rfl
  ·exact .inl rfl),(show 0 * 5 < 7 * 3 by decide),(show 0 < 64 by decide)⟩,⟨fun p h=>(by cases h),fun p h=>(by simp at h),Nat.le_refl _⟩⟩
 keep:=fun ⟨L,es,ep,t,R,g⟩ k=>⟨L,es,ep,t,R.kept k,g⟩
 add:=fun {i a v A E s Q} hi ⟨L,es,ep,t,R,g⟩ ⟨p,hp,ev⟩ hk hu q=>by
  subst ev
  have TL:QL knd s.heap L:=fun p hp=>IsTupleKey.kept (T p (List.mem_of_mem_take (g.sub p hp))) (hk p.1)
  have hx:IsTupleKey knd s.heap p.2 p.1:=IsTupleKey.kept (T p (List.mem_of_getElem? hp)) (hk p.1)
  have tk:ks.take (i+1)=ks.take i++[p]:=by rw[List.take_succ,hp];rfl
  unfold setAdd
  refine wpAny_holding (wpAny_bind (wpAny_pyHash_tuple hu hx ?_))
  refine addU (s:={ s with toks:=s.toks+(p.2.length+1) }) F0 R TL hx hu (by have:=g.len;omega) fun b h' L' es' ep' t' sb R2 c1 c2=>?_
  refine q _ h' _ sb (Nat.le_add_right _ _) ⟨L',es',ep',t',R2,?_⟩
  rcases Classical.em (p.2∈L.map (·.2)) with c | c
  ·rw[c1 c]
   refine⟨fun r hr=>?_,fun r hr=>?_,Nat.le_succ_of_le g.len⟩
   ·rw[tk];exact List.mem_append_left _ (g.sub r hr)
   ·rw[tk]at hr
    rcases List.mem_append.mp hr with z | z
    ·exact g.all r z
    ·rw[List.mem_singleton.mp z];exact c
  ·have pm:=c2 c
   refine⟨fun r hr=>?_,fun r hr=>?_,by rw[pm.length_eq,List.length_cons];exact Nat.succ_le_succ g.len⟩
   ·rw[tk]
    rcases List.mem_cons.mp (pm.mem_iff.mp hr) with e | z
    ·rw[e];exact List.mem_append_right _ (List.mem_singleton.mpr rfl)
    ·exact List.mem_append_left _ (g.sub r z)
   ·rw[(pm.map (·.2)).mem_iff,List.map_cons]
    rw[tk]at hr
    rcases List.mem_append.mp hr with z | z
    ·exact List.mem_cons_of_mem _ (g.all r z)
    ·rw[List.mem_singleton.mp z];exact List.mem_cons_self
end
end VS
set_option maxHeartbeats 6400000
namespace VS
open PySem L2 SeqAt PySem.Spec PyProof.Rows
theorem flat_mix {P:Program} {w:World}:Flat (mixKind P w) where
 cls:=fun {k v} h n=>by
  rcases keyIs_shape (show keyIs k v=true from h) with ⟨i,t,_,rfl⟩ | ⟨x,t,_,rfl⟩<;>cases n<;>rfl
 val:=fun {k v} h n=>by
  rcases keyIs_shape (show keyIs k v=true from h) with ⟨i,t,_,rfl⟩ | ⟨x,t,_,rfl⟩
  ·exact⟨true,by cases n<;>rfl⟩
  ·exact⟨false,by cases n<;>rfl⟩
theorem perm_unmap {α β:Type} {f:α→β}:∀{l m:List β},l.Perm m→∀L:List α,m=L.map f→∃L':List α,L'.Perm L∧l=L'.map f:=by
 intro l m h
 induction h with
 | nil=>intro L e;exact⟨L,List.Perm.refl _,e⟩
 | cons x _ ih =>
  intro L e
  cases L with
  | nil=>cases e
  | cons p L =>
   rw[List.map_cons]at e
   injection e with e1 e2
   obtain⟨L',h1,h2⟩:=ih L e2
   exact⟨p::L',h1.cons p,by rw[List.map_cons,h2,e1]⟩
 | swap x y l =>
  intro L e
  match L,e with
  | p::q::L,e =>
   rw[List.map_cons,List.map_cons]at e
   injection e with e1 e2
   injection e2 with e2 e3
   exact⟨q::p::L,List.Perm.swap p q L,by rw[List.map_cons,List.map_cons,e1,e2,e3]⟩
 | trans _ _ ih1 ih2 =>
  intro L e
  obtain⟨L1,h1,e1⟩:=ih2 L e
  obtain⟨L2,h2,e2⟩:=ih1 L1 e1
  exact⟨L2,h2.trans h1,e2⟩
def tupS (ns:List Str):D:=.tup (ns.map D.str)
theorem UD (ns:List Str):pyO (tupS ns)=.tuple (ns.map PyData.str):=by
 unfold pyO tupS D.py
 rw[ZV];rfl
def leT (a b:List Str):Bool:=leD (tupS a) (tupS b)
def Ze (kss:List (List Str)):List (List Str):=kss.mergeSort leT
theorem ZI (kss:List (List Str)):(Ze kss).Perm kss:=List.mergeSort_perm _ _
theorem JaV:∀xs ys:List Str,PyProof.Rows.lexLt PyProof.Rows.itemOrd (PySem.W.keyToksAll (xs.map PyData.str)) (PySem.W.keyToksAll (ys.map PyData.str))=false →
  PyProof.Rows.lexLt PyProof.Rows.itemOrd (PySem.W.keyToksAll (ys.map PyData.str)) (PySem.W.keyToksAll (xs.map PyData.str))=false→xs=ys
 | [],[],_,_=>rfl
 | [],y::ys,h,_=>by
  exfalso
  rw[List.map_cons,List.map_nil,PySem.W.toks_all_cons]at h
  revert h
  rw[show PySem.W.keyToksAll []=[Sum.inl 0] from by rw[PySem.W.keyToksAll],PyProof.Rows.lex_cons]
  simp[PyProof.Rows.itemOrd,PyProof.Rows.itemLt]
 | x::xs,[],_,h=>by
  exfalso
  rw[List.map_cons,List.map_nil,PySem.W.toks_all_cons]at h
  revert h
  rw[show PySem.W.keyToksAll []=[Sum.inl 0] from by rw[PySem.W.keyToksAll],PyProof.Rows.lex_cons]
  simp[PyProof.Rows.itemOrd,PyProof.Rows.itemLt]
 | x::xs,y::ys,h1,h2=>by
  rw[List.map_cons,List.map_cons,PySem.W.dataLt_cons (by simp[PySem.W.alike])]at h1 h2
  by_cases e:x=y
  ·subst e
   have r:PyData.eqv (.str x) (.str x)=true:=by simp[PyData.eqv]
   rw[if_pos r]at h1 h2
   rw[JaV xs ys h1 h2]
  ·have r:∀a b:Str,a≠b→¬ PyData.eqv (.str a) (.str b)=true:=fun a b n=>by simp[PyData.eqv,n]
   rw[if_neg (r x y e)]at h1
   rw[if_neg (r y x (Ne.symm e))]at h2
   refine absurd (Jba (a:=x) (b:=y) ?_ ?_) e
   ·show (!PySem.W.dataLt (.str y) (.str x))=true
    rw[h2];rfl
   ·show (!PySem.W.dataLt (.str x) (.str y))=true
    rw[h1];rfl
theorem leT_anti {a b:List Str} (h1:leT a b=true) (h2:leT b a=true):a=b:=by
 have q:∀a b:List Str,leT a b=!(PyProof.Rows.lexLt PyProof.Rows.itemOrd (PySem.W.keyToksAll (b.map PyData.str)) (PySem.W.keyToksAll (a.map PyData.str))):=fun a b=>by
  show (!PySem.W.dataLt (pyO (tupS b)) (pyO (tupS a)))=_
  rw[UD,UD,PySem.W.dataLt_tuple]
 rw[q,Bool.not_eq_true']at h1 h2
 exact JaV a b h2 h1
theorem leT_total:PySem.W.TotalLe leT:=by
 have e:leT=PySem.W.sortLe (PyProof.Rows.listOrd PyProof.Rows.itemOrd) false (fun s:List Str=>PySem.W.keyToks (pyO (tupS s))):=rfl
 rw[e];exact PySem.W.sortLe_total _ _ _
theorem Jb0 (kss:List (List Str)):(Ze kss).Pairwise fun a b=>leT a b=true :=
 List.pairwise_mergeSort leT_total.trans (fun a b=>Bool.or_eq_true_iff.mpr (leT_total.total a b)) kss
theorem sortT_same {R R':List (List Str)} (n1:R.Nodup) (n2:R'.Nodup) (h:∀x,x∈R↔x∈R'):Ze R=Ze R' :=
 List.Perm.eq_of_pairwise (le:=fun a b=>leT a b=true) (fun a b _ _ h1 h2=>leT_anti h1 h2) (Jb0 _) (Jb0 _) ((ZI _).trans (((List.perm_ext_iff_of_nodup n1 n2).mpr h).trans (ZI _).symm))
theorem sortT_map (kss:List (List Str)):(kss.map tupS).mergeSort leD=(Ze kss).map tupS:=by
 unfold Ze
 rw[List.map_mergeSort (f:=tupS) (r:=leT) (s:=leD) fun a _ b _=>rfl]
theorem Jax:∀xs ys:List Str,PySem.W.alikeAll (xs.map PyData.str) (ys.map PyData.str)=true
 | [],ys=>by cases ys<;>simp[PySem.W.alikeAll]
 | x::xs,[]=>by simp[PySem.W.alikeAll]
 | x::xs,y::ys=>by
  rw[List.map_cons,List.map_cons,PySem.W.alikeAll,Jax xs ys];simp[PySem.W.alike]
theorem depth_strs:∀xs:List Str,(PyData.tuple (xs.map PyData.str)).depth≤20:=by
 intro xs
 have key:∀xs:List Str,PyData.depthAll (xs.map PyData.str)≤1:=fun xs=>by
  induction xs with
  | nil=>simp[PyData.depthAll]
  | cons x xs ih=>simp[PyData.depthAll,PyData.depth];try omega
 have:=key xs
 simp[PyData.depth]
 omega
theorem JbQ:∀kss:List (List Str),∃ys,pys (kss.map tupS)=some ys
 | []=>⟨[],rfl⟩
 | k::kss=>by
  obtain⟨ys,e⟩:=JbQ kss
  refine⟨.tuple (k.map PyData.str)::ys,?_⟩
  rw[List.map_cons]
  show pys (tupS k::kss.map tupS)=_
  unfold pys
  rw[e]
  unfold tupS D.py
  rw[ZV];rfl
theorem JaQ:∀kss:List (List Str),imms (kss.map tupS)=true
 | []=>rfl
 | k::kss=>by
  rw[List.map_cons]
  show (imms (k.map D.str) && imms (kss.map tupS))=true
  rw[Qw,JaQ kss];rfl
theorem sortOk_tupS {kss:List (List Str)} (h:kss.length≤1000) (hn:∀k∈kss,k≠[]):UR (kss.map tupS)=true:=by
 obtain⟨ys,e⟩:=JbQ kss
 unfold UR
 simp only[Bool.and_eq_true]
 refine⟨⟨⟨⟨⟨by rw[e];rfl,JaQ _⟩,?_⟩,?_⟩,?_⟩,by simpa using Ye h⟩
 ·unfold JaD
  simp only[List.all_eq_true,List.mem_map]
  rintro d ⟨a,_,rfl⟩ d' ⟨b,_,rfl⟩
  rw[UD,UD,PySem.W.alike]
  exact Jax a b
 ·unfold Zx
  rw[Bool.or_eq_true]
  refine .inl ?_
  simp only[List.all_eq_true,List.mem_map]
  rintro d ⟨a,ha,rfl⟩
  rw[UD]
  cases a with
  | nil=>exact absurd rfl (hn _ ha)
  | cons x a=>rfl
 ·unfold ZY
  simp only[List.all_eq_true,List.mem_map]
  rintro d ⟨a,ha,rfl⟩
  rw[UD]
  exact decide_eq_true (depth_strs a)
def QK:List D→Option (List (List Str))
 | []=>some []
 | .tup ds::r=>(ZU ds).bind fun ns=>(QK r).map (ns::·)
 | _=>none
theorem JbW:∀{ds:List D} {bs:List Str},ZU ds=some bs→ds=bs.map D.str
 | [],bs,h=>by cases h;rfl
 | d::ds,bs,h=>by
  cases d<;>simp only[ZU]at h<;>try cases h
  obtain⟨bs',h1,rfl⟩:=Option.map_eq_some_iff.mp h
  rw[JbW h1];rfl
@[simp] theorem JaZ:∀kss:List (List Str),QK (kss.map tupS)=some kss
 | []=>rfl
 | k::kss=>by
  rw[List.map_cons]
  show ((ZU (k.map D.str)).bind fun ns=>(QK (kss.map tupS)).map (ns::·))=_
  rw[JaC,JaZ kss];rfl
def UE (c:CE):CE:=fun env=>(c env).bind fun d env=>match d with
 | .lst _ ds=>(match QK ds with
  | some kss=>if kss.length < 64∧kss.all (fun k=>!k.isEmpty)=true then .ok (.lst .m ((Ze (ddup kss)).map tupS)) env else .err
  | none=>.err)
 | _=>.err
section
variable {X:Cx} {C:Ctx} {H:Hp}
theorem Jb1 (hC:C.At X):∀{ds:List D} {kss:List (List Str)} {vs:List V} {f:List Addr},QK ds=some kss→Reps C H ds vs f→∃ks:List (Addr × List Str),ks.map (·.2)=kss∧vs=(ks.map fun p=>V.ref p.1)∧∀p∈ks,SqT X.K H p.1 (p.2.map V.str)∧Rep C H (tupS p.2) (V.ref p.1) []
 | [],kss,vs,f,h,r=>by cases h;exact⟨[],rfl,r.1,fun p hp=>nomatch hp⟩
 | d::ds,kss,vs,f,h,⟨v,vs',f1,f2,e,r,rs,_⟩=>by
  cases d<;>simp only[QK]at h<;>try cases h
  rename_i dd
  obtain⟨ns,h1,h⟩:=Option.bind_eq_some_iff.mp h
  obtain⟨kss',h2,rfl⟩:=Option.map_eq_some_iff.mp h
  obtain⟨ks,k1,k2,k3⟩:=Jb1 hC h2 rs
  have e0:=JbW h1
  have r0:Rep C H (tupS ns) v f1:=by rw[e0]at r;exact r
  have ef:f1=[]:=Rep.imm r0 (by show imms (ns.map D.str)=true;simp)
  obtain⟨a,us,rfl,sq,ru⟩:=Ju hC r
  refine⟨(a,ns)::ks,by rw[List.map_cons,k1],by rw[e,k2,List.map_cons],fun p hp=>?_⟩
  rcases List.mem_cons.mp hp with z | z
  ·subst z
   refine⟨?_,by rw[ef]at r0;exact r0⟩
   rw[←Jb6 h1 ru];exact sq
  ·exact k3 p z
end
section
variable {X:Cx} {W:WX} {M Rs:List Nat} {e:Expr} {c:CE} {p p2 q2 pos:Pos}
theorem Jau {P:Program} {w:World}:∀{k:List Str} {us:List Value},Vals (k.map V.str) us→ItemsAre (mixKind P w) (k.map (Sum.inr:Str→Key)) us
 | [],_,.nil=>.nil
 | n::k,_,.cons r t=>by
  obtain⟨tk,rfl⟩:=r
  exact .cons (mixKind_str P w n tk) (Jau t)
theorem JaI {α:Type} (f:α→Addr):∀(ks:List α),Vals (ks.map fun p=>V.ref (f p)) (ks.map fun p=>Value.ref (f p))
 | []=>.nil
 | p::ks=>.cons rfl (JaI f ks)
theorem Jag {α:Type} (f:α→Addr):∀{ks:List α} {us:List Value},Vals (ks.map fun p=>V.ref (f p)) us→us=ks.map fun p=>Value.ref (f p)
 | [],_,.nil=>rfl
 | p::ks,_,.cons r t=>by
  cases r
  rw[Jag f t];rfl
def kU (p:Addr × List Str):Addr × List Key:=(p.1,p.2.map Sum.inr)
theorem JcV {ks:List (Addr × List Str)}:∀L:List (Addr × List Key),(∀q∈L,q∈ks.map kU)→∃M:List (Addr × List Str),L=M.map kU∧∀q∈M,q∈ks
 | [],_=>⟨[],rfl,fun q hq=>nomatch hq⟩
 | q::L,h=>by
  obtain⟨M,e,hM⟩:=JcV L fun r hr=>h r (by simp[hr])
  obtain⟨q',h1,h2⟩:=List.mem_map.mp (h q (by simp))
  exact⟨q'::M,by rw[List.map_cons,←e,h2],fun r hr=>by
   rcases List.mem_cons.mp hr with z | z
   ·rw[z];exact h1
   ·exact hM r z⟩
theorem Jb7:∀{a b:List Str},a.map (Sum.inr:Str→Key)=b.map Sum.inr→a=b
 | [],[],_=>rfl
 | [],_::_,h=>nomatch h
 | _::_,[],h=>nomatch h
 | x::a,y::b,h=>by
  rw[List.map_cons,List.map_cons]at h
  injection h with h1 h2
  injection h1 with h1
  rw[h1,Jb7 h2]
theorem pe_sortSetU {ta:TE} {k:Nat} (hr:Room k X.A) (hc:X.calm=true) (hg:Gl X "sorted") (hm:X.mg "sorted" = none) (hg2:Gl X "set") (hm2:X.mg "set" = none) (ha:PE X e ta) (na:starEach [e] X.env=(false,eval e X.env)::starEach [] X.env) :
  PE X (.Call (.Name "sorted" p) [.Call (.Name "set" p2) [e] [] q2] [] pos) (fun σ H Q=>ta σ H fun x H1=>∃(C:Ctx) (l:Addr) (ks:List (Addr × List Str)),C.At X∧Fr C H1∧x=V.ref l∧SqL X.K H1 l (ks.map fun p=>V.ref p.1)∧(∀p∈ks,SqT X.K H1 p.1 (p.2.map V.str)∧Rep C H1 (tupS p.2) (V.ref p.1) [])∧(∀p∈ks,p.2≠[])∧ks.length < 64∧∀a,H1 a=none→∀vs',Reps C H1 ((Ze (ddup (ks.map (·.2)))).map tupS) vs' []→Q (.ref a) (L2.upd H1 a (.lst vs'))):=by
 refine⟨fun pins s σ H Q I h=>Call_ (ld_blt I hg hm (show bootBuiltins "sorted" = some (.builtin "sorted") by decide +kernel) (PyProof.Rows.callWith_builtin1 (PyProof.Rows.args_cons ?_ rfl) rfl rfl))⟩
 refine Call_ (ld_blt I hg2 hm2 boot_set (PyProof.Rows.callWith_type1 (PyProof.Rows.args_cons (thn (ha.run pins s σ H _ I h) fun v s1 ⟨x,H1,I1,r1,C,l,ks,hC,hF,ex,hq,hk,hne,hlen,q1⟩=>PyProof.Rows.args_nil ?_) na) na rfl))
 subst ex
 cases r1
 obtain⟨its,rv,pl,hz⟩:=I1.list hq
 have eits:its=ks.map fun p=>Value.ref p.1:=Jag (fun p:Addr × List Str=>p.1) rv
 have T:QL (mixKind X.prog X.w) s1.heap (ks.map kU):=fun q hq=>by
  obtain⟨q',h1,rfl⟩:=List.mem_map.mp hq
  obtain⟨its,r,⟨o,ho,hc,n,hd⟩,_⟩:=I1.tuple (hk q' h1).1
  exact⟨o,its.toArray,n,ho,hc,hd,by simpa [kU] using Jau r⟩
 have hsz:its.toArray.size=(ks.map kU).length:=by rw[eits];simp
 have hun:=hr.units
 refine call_set_lstH (P:=X.prog) (w:=X.w) (Vl:=fun i v=>∃p,(ks.map kU)[i]?=some p∧v=.ref p.1) (by rw[hsz];exact runU flat_mix (ks.map kU) (by simpa using hlen) T) (I1.ok.hd hc) (by omega) pl.isList (fun i v hv=>?_) fun h' tk hS hk'=>?_
 ·rw[←Array.getElem?_toList,eits]at hv
  simp only[List.getElem?_map,Option.map_eq_some_iff]at hv
  obtain⟨q,hq,rfl⟩:=hv
  exact⟨kU q,by rw[List.getElem?_map,hq];rfl,rfl⟩
 rw[hsz]at hS
 obtain⟨L,es,ep,tb,R,g⟩:=hS
 refine PyProof.Rows.args_nil ?_
 obtain⟨o,ho,hex,hd⟩:=R.ob
 have hfit:=SetU.fits (s:={ s1 with heap:=h',toks:=tk }) R
 have hsz2:=SetU.size (s:={ s1 with heap:=h',toks:=tk }) R
 have I2:Inv X pins σ H1 { s1 with heap:=h',toks:=tk }:=I1.kept fun b o e=>hk' b o e
 refine sorted_by2 I2 hr hC hF (res:=(Ze (ddup (ks.map (·.2)))).map tupS) (fun {R' E} hcont=>?_) q1
 refine collect_set (A:=X.A.in1) (I2.ok.hd hc) ⟨o,ho,hex.1,hd⟩ hfit (by have:=R.few;unfold scanBound;omega) R.tab.ris R.led fun t out k1 _ g1 o1 pm=>?_
 rw[R.rows,List.map_map]at pm
 obtain⟨L',hp1,hp2⟩:=perm_unmap pm L rfl
 obtain⟨M,eM,hM⟩:=JcV L' fun q hq=>List.mem_of_mem_take (g.sub q (hp1.mem_iff.mp hq))
 subst eM
 have hnd:(M.map (·.2)).Nodup:=by
  have h1:=(hp1.map (·.2)).nodup_iff.mpr R.nd
  rw[List.map_map]at h1
  refine L2.nodup_of_map (f:=List.map (Sum.inr:Str→Key)) ?_
  rw[List.map_map];exact h1
 have hmem:∀x,x∈M.map (·.2)↔x∈ddup (ks.map (·.2)):=fun x=>by
  rw[Zo]
  constructor
  ·intro hx
   obtain⟨q,h1,rfl⟩:=List.mem_map.mp hx
   exact List.mem_map.mpr ⟨q,hM q h1,rfl⟩
  ·intro hx
   obtain⟨q,h1,rfl⟩:=List.mem_map.mp hx
   have h2:=g.all (kU q) (by rw[List.take_length];exact List.mem_map.mpr ⟨q,h1,rfl⟩)
   rw[←(hp1.map (·.2)).mem_iff,List.map_map]at h2
   obtain⟨q',h3,h4⟩:=List.mem_map.mp h2
   exact List.mem_map.mpr ⟨q',h3,Jb7 h4⟩
 have hMl:M.length≤1000:=by
  have h1:=hp1.length_eq
  rw[List.length_map]at h1
  have:=R.few
  omega
 have hrep:=YZ (C:=C) (H:=H1) (bs:=M.map fun q=>(tupS q.2,V.ref q.1)) fun b hb=>by
  obtain⟨q,h1,rfl⟩:=List.mem_map.mp hb
  exact(hk q (hM q h1)).2
 rw[List.map_map,List.map_map]at hrep
 refine hcont t out ((M.map (·.2)).map tupS) (M.map fun q=>V.ref q.1) k1 g1 o1 (sortOk_tupS (by simpa using hMl) fun x hx=>?_) (by rw[List.map_map];exact hrep) ?_ ?_
 ·obtain⟨q,h1,rfl⟩:=List.mem_map.mp hx
  exact hne q (hM q h1)
 ·rw[hp2,List.map_map]
  exact JaI (fun p:Addr × List Str=>p.1) M
 ·rw[sortT_map,sortT_same hnd (UW _) hmem]
theorem so_sortSetU {k:Nat} (hr:Room k X.A) (hc:X.calm=true) (hg:Gl X "sorted") (hm:X.mg "sorted" = none) (hg2:Gl X "set") (hm2:X.mg "set" = none) (h:SB X W M Rs e c) (na:starEach [e] X.env=(false,eval e X.env)::starEach [] X.env) :
  SO X W M (.Call (.Name "sorted" p) [.Call (.Name "set" p2) [e] [] q2] [] pos) (UE c):=by
 obtain⟨t,pe,q⟩:=h.go
 refine⟨_,pe_sortSetU hr hc hg hm hg2 hm2 pe na,fun C fs env σ H tf Q hC G po=>?_⟩
 show t σ H fun x H1=>_
 refine q C fs env σ H tf _ hC G ?_
 unfold UE at po
 cases e1:c env with
 | err=>rw[e1]at po;exact po
 | ex x env'=>rw[e1]at po;exact po
 | ok d env1 =>
  rw[e1]at po
  intro v fs1 H1 fp own G1 s1 r i1
  simp only[R.bind]at po
  cases d with
  | lst g ds =>
   simp only at po
   cases hk:QK ds with
   | none=>rw[hk]at po;exact po.elim
   | some kss =>
   rw[hk]at po
   simp only at po
   by_cases hl:kss.length < 64∧kss.all (fun k=>!k.isEmpty)=true
   case neg=>rw[if_neg hl]at po;exact po.elim
   rw[if_pos hl]at po
   have k:=Ym (own:=own) G1 s1 po
   obtain⟨a,vs,f,rfl,q,rz⟩:=Jj hC G1.fr r
   obtain⟨ks,k1,k2,k3⟩:=Jb1 hC hk rz
   refine⟨C,a,ks,hC,G1.fr,rfl,by rw[←k2];exact q,k3,fun p hp=>?_,by have:=congrArg List.length k1;simp at this;omega,fun b hb vs' rs'=>k.lst' (by rw[←k1];exact rs') hb⟩
   have:=List.all_eq_true.mp hl.2 p.2 (by rw[←k1];exact List.mem_map.mpr ⟨p,hp,rfl⟩)
   intro z;rw[z]at this;cases this
  | _=>exact po.elim
@[simp] theorem e_sortSetU {env:Env}:UE c env=(c env).bind fun d env=>match d with
 | .lst _ ds=>(match QK ds with
  | some kss=>if kss.length < 64∧kss.all (fun k=>!k.isEmpty)=true then .ok (.lst .m ((Ze (ddup kss)).map tupS)) env else .err
  | none=>.err)
 | _=>.err:=(rfl)
end
end VS
namespace VS
open PySem L2 SeqAt PySem.Spec PyProof.Rows
def keepZ (p:Addr × Obj):Bool:=(match p.2.cls with
 | .none=>false
 | _=>true) || (Nat.beq p.1 2 || Nat.beq p.1 3)
def KofG (g:Addr→Option Obj) (as:List Addr):PySem.W.Frag:=(He.frG g as).filter keepZ
theorem KofG_in {as:List Addr} {h:Heap}:(KofG h.get? as).In h:=fun _ _ e=>He.frG_mem (List.mem_filter.mp (He.lookup_mem e)).1
def Jdj {α:Type} (as:List Addr) (ob:PySem.W.Frag→α) (val:World→α):PySem.W.Hook where
 α:=α
 obs:=fun s=>ob (KofG s.heap.get? as)
 val:=val
 says:=fun w h=>∃K:PySem.W.Frag,K.In h∧ob K=val w
 of:=fun _ _ e=>⟨_,KofG_in,e⟩
 keeps:=fun _ _ _ ⟨K,hK,c⟩ k=>⟨K,PySem.W.Frag.In.keeps hK k,c⟩
def obT {α:Type} (as:List Addr) (ob:PySem.W.Frag→α) (s:PySem.W.SharedT):α:=ob (KofG (HandSHeadRun.getT s) as)
theorem obT_eq {α:Type} {as:List Addr} {ob:PySem.W.Frag→α} {val:World→α} (s:PySem.W.SharedT):obT as ob s=(Jdj as ob val).obs s.abs:=by
 have e:HandSHeadRun.getT s=s.abs.heap.get?:=funext (HandSHeadRun.getT_eq s)
 unfold obT
 rw[e]
 rfl
theorem YX {l:List Bool} (h:l.all id=true) (i:Nat) {b:Bool} (e:l[i]?=some b):b=true:=List.all_eq_true.mp h b (List.mem_of_getElem? e)
theorem Jz {l:List Bool} {p:Prop} [Decidable p] (h:l.all id=true) (i:Nat) (e:l[i]?=some (decide p)):p:=of_decide_eq_true (YX h i e)
theorem walkGE {l:PySem.W.OpenLaw} {k:Nat} {q:Program} {loose:List Str} {XP:(Str→Option Value)→Heap→Prop} {YP:World→Heap→Prop} {d:DefRec} {x:Str}
  (hn:l.most=some 63) (hdf:d.params.defaults=[]) (hr:Room k callerA)
  (F:∀(w:World) (mg:Str→Option Value) (fa:Addr) (h:Heap),YP w h→h.Ns mainGlobals mg→mg d.name=some (.ref fa) →
   ∃K:PySem.W.Frag,K.In h∧∃fd:FuncData,(∀(s:Shared) (u:Value),BindsTo s fd ⟨[u],[]⟩ [(x,u)])∧∀base:Heap,K.In base→base.Ns mainGlobals mg→FnG l.prog w K mg base k fa fd [x] (JbF K)) :
  PySem.W.WalkO q loose XP YP l.row.toRowW d [] (fun f vs=>PySem.call f vs):=by
 refine Att.attach_callB hn hdf fun w t0 t mg mb fa o pm cd doc a vs ns G Y ho hd hcd hmg hobj hints hlen hbits hgen=>?_
 obtain⟨K,KX,fd,hb,hF⟩:=F w mg fa _ Y G.T.g hmg
 exact call_g KX G.T.g G.T.b G.T.builtins G.T.nolimit hgen hobj hints hr hF hb hlen hbits
end VS
namespace VS
open PySem L2 SeqAt PySem.Spec PyProof.Rows
def top (i:Nat):Stmt:=PySem.Challenge.pw_joinback_k13_eldest.main.body.getD i (.Pass ⟨0,0,0,0⟩)
section
variable {P:Program} {w:World} {K:PySem.W.Frag} {mg:Str→Option Value} {base:Heap}
abbrev JN:Stmt:=top 5
theorem sc__law_begin:FnScope ["_law_script", "_law_cells"] ["_law_script"] (defScope JN):=⟨rfl,rfl,rfl,by decide +kernel,rfl,by decide +kernel,by decide +kernel⟩
def US:CS:=(sSeq (sAsg (cL Yi (Jc (cSl (cVar 0) pNo (pAt (cK (.int 63)))) cNil)) (gSet 1)) (sSeq (sIf (cTt (c2 pEq (cVar 1) (cLst cNil))) (sAsg (cLst (Jc (cK (.int 7)) cNil)) (gSet 1)) sNil) (sRet (QE (((cK (.str "cells")),(cGet 1))::(((cK (.str "turn")),(cK (.int 0)))::[]))))))
def YG:List D→FR:=YQ 2 [false] US
theorem ok__law_begin {f:Addr} {fd:FuncData} (F:Fun K "_law_begin" "_law_begin" JN f fd) (z_list:mg "list" = none):FnOk P w K mg base (L2.CX P w) 1 f fd ["_law_script"] (spF K mg [false] YG):=by
 refine' fn_ok (M:=_) (Vs:=_) F sc__law_begin rfl ?hv fun cdv A outer s H E hr=>?hb
 case hb =>
  have hr:Room 0 (cxOf (L2.CX P w) P w K mg base ["_law_script", "_law_cells"] "_law_begin" (defScope JN) f cdv A outer s H E).A:=hr
  have hN:(cxOf (L2.CX P w) P w K mg base ["_law_script", "_law_cells"] "_law_begin" (defScope JN) f cdv A outer s H E).N.Nodup:=sc__law_begin.nd
  have tk:Takes (cxOf (L2.CX P w) P w K mg base ["_law_script", "_law_cells"] "_law_begin" (defScope JN) f cdv A outer s H E) (fun cls d _ H=>E cls d H):=takes_of rfl rfl rfl rfl
  have hp:=passes_of (X:=cxOf (L2.CX P w) P w K mg base ["_law_script", "_law_cells"] "_law_begin" (defScope JN) f cdv A outer s H E) rfl
  refine'(Jd (Jp hN (YM (Qg rfl) (by rfl) z_list (by rfl) (Js (SO.sb (Zg (Ja 0) JbZ (Jb2 (SO.sb Jg)) (by decide))) JF))) (Jd (YU (JG (ZD hr) (Ja 1) (SO.sb (Zm JA))) (Jv (Jp hN (Zm (Jf Jg JA)))) Ys) (Jv (Yl (Jbp (Zp (SO.sb Up) (Yj 1) (Zp (SO.sb Up) Jg Jbl)) (by rfl) (by rfl) (by intro h;cases h) (by decide))))))
 case hv=>decide
abbrev JT:Stmt:=top 6
theorem sc__law_take:FnScope ["_law_state", "_law_many", "_law_turn", "_law_spot", "_law_cell", "_law_digit", "_law_mixed"] ["_law_state", "_law_many"] (defScope JT):=⟨rfl,rfl,rfl,by decide +kernel,rfl,by decide +kernel,by decide +kernel⟩
def Ud:CS:=(sSeq (sAsg (c2 pAdd (cIdx (cVar 0) (cK (.str "turn"))) (cK (.int 1))) (gSet 2)) (sSeq (sAsg (cGet 2) (UH 0 (lVar 0) (cK (.str "turn")))) (sSeq (sAsg (c2 pMod (cVar 2) (cL pLen (Jc (cIdx (cVar 0) (cK (.str "cells"))) cNil))) (gSet 3)) (sSeq (sAsg (cImm (cIdx (cIdx (cVar 0) (cK (.str "cells"))) (cVar 3))) (gSet 4)) (sSeq (sIf (cTt (c2 pGeG (cVar 4) (c2 pPow (cK (.int 10)) (cK (.int 18))))) (sSeq (sAsg (cL Qh (Jc (cVar 4) (Jc (cVar 1) cNil))) (Yt 2 (Ji (UH 0 (lIdx (lVar 0) (cK (.str "cells"))) (cVar 3)) (Ji (gSet 5) Yx)))) (sRet (cGet 5))) sNil) (sSeq (sAsg (c2 pMod (c2 Ug (c2 pAdd (c2 pAdd (c2 pMod (cVar 4) (cK (.int 2147483629))) (c2 Ug (c2 Ug (cVar 2) (cVar 2)) (cK (.int 7919)))) (cK (.int 11))) (cK (.int 48271))) (cK (.int 2147483647))) (gSet 6)) (sSeq (sAsg (c2 pMod (c2 Ug (cVar 6) (cVar 6)) (cK (.int 2147483587))) (gSet 6)) (sRet (c2 pMod (c2 pDiv (c2 pMod (c2 Ug (c2 pAdd (cVar 6) (c2 Ug (cVar 2) (cK (.int 104729)))) (cK (.int 39373))) (cK (.int 2147483629))) (cK (.int 64))) (cVar 1))))))))))
def Jb:List D→FR:=YQ 7 [true,false] Ud
theorem ok__law_take {f:Addr} {fd:FuncData} (F:Fun K "_law_take" "_law_take" JT f fd) (z_len:mg "len" = none) (z_divmod:mg "divmod" = none):FnOk P w K mg base (L2.CX P w) 1 f fd ["_law_state", "_law_many"] (spF K mg [true,false] Jb):=by
 refine' fn_ok (M:=_) (Vs:=_) F sc__law_take rfl ?hv fun cdv A outer s H E hr=>?hb
 case hb =>
  have hr:Room 0 (cxOf (L2.CX P w) P w K mg base ["_law_state", "_law_many", "_law_turn", "_law_spot", "_law_cell", "_law_digit", "_law_mixed"] "_law_take" (defScope JT) f cdv A outer s H E).A:=hr
  have hN:(cxOf (L2.CX P w) P w K mg base ["_law_state", "_law_many", "_law_turn", "_law_spot", "_law_cell", "_law_digit", "_law_mixed"] "_law_take" (defScope JT) f cdv A outer s H E).N.Nodup:=sc__law_take.nd
  have tk:Takes (cxOf (L2.CX P w) P w K mg base ["_law_state", "_law_many", "_law_turn", "_law_spot", "_law_cell", "_law_digit", "_law_mixed"] "_law_take" (defScope JT) f cdv A outer s H E) (fun cls d _ H=>E cls d H):=takes_of rfl rfl rfl rfl
  have hp:=passes_of (X:=cxOf (L2.CX P w) P w K mg base ["_law_state", "_law_many", "_law_turn", "_law_spot", "_law_cell", "_law_digit", "_law_mixed"] "_law_take" (defScope JT) f cdv A outer s H E) rfl
  refine'(Jd (Jp hN (Jq YK (Yc hr (Ja 0) (SO.sb Up)) (SO.sb Jg))) (Jd (UA (Yj 2) (ZO hr (W1:=fun cls d _ H=>E cls d H) (W2:=fun cls d _ H=>E cls d H) (YS 0) (SO.sb Up))) (Jd (Jp hN (Jq UV (Ja 2) (SO.sb (JI YW (by rfl) z_len (by rfl) (Js (Yc hr (Ja 0) (SO.sb Up)) JF))))) (Jd (Jp hN (SB.imm (Yc hr (Yc hr (Ja 0) (SO.sb Up)) (Ja 3)))) (Jd (YU (JG (od_geG hr) (Ja 4) (SO.sb (Jq od_pow (SO.sb Jg) (SO.sb Jg)))) (Jd (UA (JI od_divmod (by rfl) z_divmod (by rfl) (Js (Ja 4) (Js (Ja 1) JF))) (Uy rfl (Jw (ZO hr (W1:=fun cls d _ H=>E cls d H) (W2:=fun cls d _ H=>E cls d H) (sl_idx hr (YS 0) (SO.sb Up)) (Ja 3)) (Jw (Jt 5 hN) Ua)))) (Jv (Yl (Yj 5)))) Ys) (Jd (Jp hN (Jq UV (SO.sb (Jq Ub (SO.sb (Jq YK (SO.sb (Jq YK (SO.sb (Jq UV (Ja 4) (SO.sb Jg))) (SO.sb (Jq Ub (SO.sb (Jq Ub (Ja 2) (Ja 2))) (SO.sb Jg))))) (SO.sb Jg))) (SO.sb Jg))) (SO.sb Jg))) (Jd (Jp hN (Jq UV (SO.sb (Jq Ub (Ja 6) (Ja 6))) (SO.sb Jg))) (Jv (Yl (Jq UV (SO.sb (Jq Jc9 (SO.sb (Jq UV (SO.sb (Jq Ub (SO.sb (Jq YK (Ja 6) (SO.sb (Jq Ub (Ja 2) (SO.sb Jg))))) (SO.sb Jg))) (SO.sb Jg))) (SO.sb Jg))) (Ja 1)))))))))))
 case hv=>decide
abbrev JP:Stmt:=top 7
theorem sc__law_names:FnScope ["_law_state", "_law_many", "_law_some", "_law_first"] ["_law_state"] (defScope JP):=⟨rfl,rfl,rfl,by decide +kernel,rfl,by decide +kernel,by decide +kernel⟩
def Qo:CS:=(sSeq (sAsg (cImm (cIdx (cLst (Jc (cK (.int 4)) (Jc (cK (.int 5)) (Jc (cK (.int 6)) (Jc (cK (.int 7)) (Jc (cK (.int 8)) (Jc (cK (.int 6)) (Jc (c2 pAdd (cK (.int 10)) (Jo Jb (aOw (cMv 0) (some 0) (aRo (cK (.int 5)) aNil)))) (Jc (Jo Jb (aOw (cMv 0) (some 0) (aRo (cK (.int 3)) aNil))) cNil))))))))) (Jo Jb (aOw (cMv 0) (some 0) (aRo (cK (.int 8)) aNil))))) (gSet 1)) (sSeq (sAsg (Jbm (cK (.str "b aa zebra c quartzes ab m knows d mm likes z a ba abcdefgh y")) (cK (.str " "))) (gSet 2)) (sSeq (sAsg (Jo Jb (aOw (cMv 0) (some 0) (aRo (cL pLen (Jc (cVar 2) cNil)) aNil))) (gSet 3)) (sRet (cSl (c2 pAdd (cSl (cVar 2) (pAt (cVar 3)) pNo) (cSl (cVar 2) pNo (pAt (cVar 3)))) pNo (pAt (cVar 1)))))))
def Yd:List D→FR:=YQ 4 [true] Qo
theorem ok__law_names {f:Addr} {fd:FuncData} (F:Fun K "_law_names" "_law_names" JP f fd) (z_len:mg "len" = none) (d__law_take:Fd P w K mg base 1 "_law_take" ["_law_state", "_law_many"] [true,false] Jb):FnOk P w K mg base (L2.CX P w) 2 f fd ["_law_state"] (spF K mg [true] Yd):=by
 refine' fn_ok (M:=_) (Vs:=_) F sc__law_names rfl ?hv fun cdv A outer s H E hr=>?hb
 case hb =>
  have hr:Room 1 (cxOf (L2.CX P w) P w K mg base ["_law_state", "_law_many", "_law_some", "_law_first"] "_law_names" (defScope JP) f cdv A outer s H E).A:=hr
  have hN:(cxOf (L2.CX P w) P w K mg base ["_law_state", "_law_many", "_law_some", "_law_first"] "_law_names" (defScope JP) f cdv A outer s H E).N.Nodup:=sc__law_names.nd
  have tk:Takes (cxOf (L2.CX P w) P w K mg base ["_law_state", "_law_many", "_law_some", "_law_first"] "_law_names" (defScope JP) f cdv A outer s H E) (fun cls d _ H=>E cls d H):=takes_of rfl rfl rfl rfl
  have hp:=passes_of (X:=cxOf (L2.CX P w) P w K mg base ["_law_state", "_law_many", "_law_some", "_law_first"] "_law_names" (defScope JP) f cdv A outer s H E) rfl
  have D__law_take:=(d__law_take).mono (k:=1) (by omega)
  refine'(Jd (Jp hN (SB.imm (Yc hr (SO.sb (Zm (Jf Jg (Jf Jg (Jf Jg (Jf Jg (Jf Jg (Jf Jg (Jf (Jq YK (SO.sb Jg) (SO.sb (Jm D__law_take hr tk (JD (Jl (SO.sb Jg) Jk))))) (Jf (Jm D__law_take hr tk (JD (Jl (SO.sb Jg) Jk))) JA)))))))))) (SO.sb (Jm D__law_take hr tk (JD (Jl (SO.sb Jg) Jk))))))) (Jd (Jp hN (so_split (SO.sb Up) (SO.sb Up) (by rfl) (by rfl) (by rfl))) (Jd (Jp hN (Jm D__law_take hr tk (JD (Jl (SO.sb (JI YW (by rfl) z_len (by rfl) (Js (Ja 2) JF))) Jk)))) (Jv (Yl (Zg (SO.sb (Jq YK (SO.sb (Zg (Ja 2) (Jb2 (Ja 3)) JbZ (by decide))) (SO.sb (Zg (Ja 2) JbZ (Jb2 (Ja 3)) (by decide))))) JbZ (Jb2 (Ja 1)) (by decide)))))))
 case hv=>decide
abbrev Jr:Stmt:=top 8
theorem sc__law_joinings:FnScope ["_law_state", "_law_names_here", "_law_spots", "_law_name", "_law_spot", "_law_found", "_law_turn", "_law_step", "_law_way", "_law_k", "_law_j", "_law_one", "_law_other"] ["_law_state", "_law_names_here"] (defScope Jr):=⟨rfl,rfl,rfl,by decide +kernel,rfl,by decide +kernel,by decide +kernel⟩
def Yu:CS:=(sSeq (sPar 9 10 (Jc (Jo Jb (aOw (cMv 0) (some 0) (aRo (cL pLen (Jc (cVar 1) cNil)) aNil))) (Jc (Jo Jb (aOw (cMv 0) (some 0) (aRo (cL pLen (Jc (cVar 1) cNil)) aNil))) cNil))) (sSeq (sAsg (c2 pSub (cIdx (cVar 2) (cVar 10)) (cIdx (cVar 2) (cVar 9))) (gSet 7)) (sSeq (sIf (cTt (c2 pEq (Jo Jb (aOw (cMv 0) (some 0) (aRo (cK (.int 3)) aNil))) (cK (.int 0)))) (sAsg (c2 pSub (Jo Jb (aOw (cMv 0) (some 0) (aRo (cK (.int 9)) aNil))) (cK (.int 4))) (gSet 7)) sNil) (sSeq (YN (cMut 5 kdL Yk (lVar 5) (Jc (cTup (Jc (cImm (cIdx (cVar 1) (cVar 9))) (Jc (cImm (cIdx (cVar 1) (cVar 10))) (Jc (cGet 7) cNil)))) cNil))) (sSeq (sAsg (Jo Jb (aOw (cMv 0) (some 0) (aRo (cK (.int 12)) aNil))) (gSet 8)) (sSeq (sIf (cTt (c2 pEq (cVar 8) (cK (.int 0)))) (sAsg (cImm (cIdx (cVar 5) (Jo Jb (aOw (cMv 0) (some 0) (aRo (cL pLen (Jc (cVar 5) cNil)) aNil))))) (UH 5 (lVar 5) (c1 pNeg (cK (.int 1))))) sNil) (sIf (cTt (c2 pEq (cVar 8) (cK (.int 1)))) (sSeq (sAsg (cImm (cIdx (cVar 5) (Jo Jb (aOw (cMv 0) (some 0) (aRo (cL pLen (Jc (cVar 5) cNil)) aNil))))) (Yt 3 (Ji (gSet 11) (Ji (gSet 12) (Ji (gSet 7) Yx))))) (sAsg (cTup (Jc (cGet 12) (Jc (cGet 11) (Jc (c1 pNeg (cVar 7)) cNil)))) (UH 5 (lVar 5) (c1 pNeg (cK (.int 1)))))) sNil)))))))
def Zd:CS:=(sSeq (sAsg (cLc (Ur (cVar 1)) [3] (gSet 3) cYes (c2 pSub (Jo Jb (aOw (cMv 0) (some 0) (aRo (cK (.int 19)) aNil))) (cK (.int 9)))) (gSet 2)) (sSeq (sIf (cTt (c2 pEq (Jo Jb (aOw (cMv 0) (some 0) (aRo (cK (.int 6)) aNil))) (cK (.int 0)))) (sAsg (cLc (Ur (cVar 2)) [4] (gSet 4) cYes (c2 Ug (cVar 4) (cK (.int 50000000021)))) (gSet 2)) sNil) (sSeq (sAsg (cLst cNil) (gSet 5)) (sSeq (sFor (UX (Jc (Jo Jb (aOw (cMv 0) (some 0) (aRo (c2 pAdd (c2 Ug (cK (.int 2)) (cL pLen (Jc (cVar 1) cNil))) (cK (.int 1))) aNil))) cNil)) (gSet 6) Yu) (sRet (cGet 5))))))
def JV:List D→FR:=YQ 13 [true,false] Zd
theorem ok__law_joinings {f:Addr} {fd:FuncData} (F:Fun K "_law_joinings" "_law_joinings" Jr f fd) (z_len:mg "len" = none) (z_range:mg "range" = none) (d__law_take:Fd P w K mg base 1 "_law_take" ["_law_state", "_law_many"] [true,false] Jb):FnOk P w K mg base (L2.CX P w) 2 f fd ["_law_state", "_law_names_here"] (spF K mg [true,false] JV):=by
 refine' fn_ok (M:=_) (Vs:=_) F sc__law_joinings rfl ?hv fun cdv A outer s H E hr=>?hb
 case hb =>
  have hr:Room 1 (cxOf (L2.CX P w) P w K mg base ["_law_state", "_law_names_here", "_law_spots", "_law_name", "_law_spot", "_law_found", "_law_turn", "_law_step", "_law_way", "_law_k", "_law_j", "_law_one", "_law_other"] "_law_joinings" (defScope Jr) f cdv A outer s H E).A:=hr
  have hN:(cxOf (L2.CX P w) P w K mg base ["_law_state", "_law_names_here", "_law_spots", "_law_name", "_law_spot", "_law_found", "_law_turn", "_law_step", "_law_way", "_law_k", "_law_j", "_law_one", "_law_other"] "_law_joinings" (defScope Jr) f cdv A outer s H E).N.Nodup:=sc__law_joinings.nd
  have tk:Takes (cxOf (L2.CX P w) P w K mg base ["_law_state", "_law_names_here", "_law_spots", "_law_name", "_law_spot", "_law_found", "_law_turn", "_law_step", "_law_way", "_law_k", "_law_j", "_law_one", "_law_other"] "_law_joinings" (defScope Jr) f cdv A outer s H E) (fun cls d _ H=>E cls d H):=takes_of rfl rfl rfl rfl
  have hp:=passes_of (X:=cxOf (L2.CX P w) P w K mg base ["_law_state", "_law_names_here", "_law_spots", "_law_name", "_law_spot", "_law_found", "_law_turn", "_law_step", "_law_way", "_law_k", "_law_j", "_law_one", "_law_other"] "_law_joinings" (defScope Jr) f cdv A outer s H E) rfl
  have D__law_take:=(d__law_take).mono (k:=1) (by omega)
  refine'(Jd (Qf (own:=[("_law_name", 3)]) [3] rfl hN (ZL (Ja 1)) (blkOk_by (N:=["_law_state", "_law_names_here", "_law_spots", "_law_name", "_law_spot", "_law_found", "_law_turn", "_law_step", "_law_way", "_law_k", "_law_j", "_law_one", "_law_other"]) (sc:=defScope Jr) (own:=[("_law_name", 3)]) (by decide +kernel)) (fun _ _ _ _ _=>(Jt 3 hN)) (fun _ _ _ _ _=>Qd) (fun _ _ _ _ _=>(Jq Jan (SO.sb (Jm D__law_take hr takes0 (JD (Jl (SO.sb Jg) Jk)))) (SO.sb Jg))) rfl (by decide) (by decide) (by intro _;rfl) (by rfl) (by rfl) (by rfl)) (Jd (YU (JG (ZD hr) (SO.sb (Jm D__law_take hr tk (JD (Jl (SO.sb Jg) Jk)))) (SO.sb Jg)) (Jv (Qf (own:=[("_law_spot", 4)]) [4] rfl hN (ZL (Ja 2)) (blkOk_by (N:=["_law_state", "_law_names_here", "_law_spots", "_law_name", "_law_spot", "_law_found", "_law_turn", "_law_step", "_law_way", "_law_k", "_law_j", "_law_one", "_law_other"]) (sc:=defScope Jr) (own:=[("_law_spot", 4)]) (by decide +kernel)) (fun _ _ _ _ _=>(Jt 4 hN)) (fun _ _ _ _ _=>Qd) (fun _ _ _ _ _=>(Jq Ub (Ja 4) (SO.sb Jg))) rfl (by decide) (by decide) (by intro _;rfl) (by rfl) (by rfl) (by rfl))) Ys) (Jd (Jp hN (Zm JA)) (Jd (ZH hp rfl (Zy (by rfl) z_range (Js (SO.sb (Jm D__law_take hr tk (JD (Jl (SO.sb (Jq YK (SO.sb (Jq Ub (SO.sb Jg) (SO.sb (JI YW (by rfl) z_len (by rfl) (Js (Ja 1) JF))))) (SO.sb Jg))) Jk)))) JF)) (Jt 6 hN) (Jd (JcA rfl hN (Jf (Jm D__law_take hr tk (JD (Jl (SO.sb (JI YW (by rfl) z_len (by rfl) (Js (Ja 1) JF))) Jk))) (Jf (Jm D__law_take hr tk (JD (Jl (SO.sb (JI YW (by rfl) z_len (by rfl) (Js (Ja 1) JF))) Jk))) JA))) (Jd (Jp hN (Jq Jan (Yc hr (Ja 2) (Ja 10)) (Yc hr (Ja 2) (Ja 9)))) (Jd (YU (JG (ZD hr) (SO.sb (Jm D__law_take hr tk (JD (Jl (SO.sb Jg) Jk)))) (SO.sb Jg)) (Jv (Jp hN (Jq Jan (SO.sb (Jm D__law_take hr tk (JD (Jl (SO.sb Jg) Jk)))) (SO.sb Jg)))) Ys) (Jd (Ut (SO.sb (Qm (YS 5) (Jf (UB (Jf (SB.imm (Yc hr (Ja 1) (Ja 9))) (Jf (SB.imm (Yc hr (Ja 1) (Ja 10))) (Jf (Yj 7) JA)))) JA) (by decide) (by rfl) (by rfl) (by rfl) (by rfl) (by rfl)))) (Jd (Jp hN (Jm D__law_take hr tk (JD (Jl (SO.sb Jg) Jk)))) (Jd (YU (JG (ZD hr) (Ja 8) (SO.sb Jg)) (Jv (UA (SB.imm (Yc hr (Ja 5) (SO.sb (Jm D__law_take hr tk (JD (Jl (SO.sb (JI YW (by rfl) z_len (by rfl) (Js (Ja 5) JF))) Jk)))))) (ZO hr (W1:=fun cls d _ H=>E cls d H) (W2:=fun cls d _ H=>E cls d H) (YS 5) (SO.sb (Qu (SO.sb Jg)))))) Ys) (Jv (YU (JG (ZD hr) (Ja 8) (SO.sb Jg)) (Jd (UA (SB.imm (Yc hr (Ja 5) (SO.sb (Jm D__law_take hr tk (JD (Jl (SO.sb (JI YW (by rfl) z_len (by rfl) (Js (Ja 5) JF))) Jk)))))) (Uy rfl (Jw (Jt 11 hN) (Jw (Jt 12 hN) (Jw (Jt 7 hN) Ua))))) (Jv (UA (UB (Jf (Yj 12) (Jf (Yj 11) (Jf (Qu (Ja 7)) JA)))) (ZO hr (W1:=fun cls d _ H=>E cls d H) (W2:=fun cls d _ H=>E cls d H) (YS 5) (SO.sb (Qu (SO.sb Jg))))))) Ys))))))))) (Jv (Yl (Yj 5)))))))
 case hv=>decide
abbrev JR:Stmt:=top 11
theorem sc__law_long:FnScope ["_law_state", "_law_many", "_law_letters", "_law_names_here", "_law_k", "_law_found", "_law_to", "_law_joining"] ["_law_state", "_law_many"] (defScope JR):=⟨rfl,rfl,rfl,by decide +kernel,rfl,by decide +kernel,by decide +kernel⟩
def Uc:CS:=(sSeq (sAsg (cL JaY (Jc (cK (.int 39)) (Jc (c2 pAdd (c2 pAdd (c2 pMod (cVar 4) (cK (.int 39))) (cK (.int 1))) (c2 Ug (cL JaT (Jc (c2 pGtG (cVar 4) (cK (.int 38))) cNil)) (Jo Jb (aOw (cMv 0) (some 0) (aRo (cK (.int 2)) aNil))))) cNil))) (gSet 6)) (sSeq (sAsg (cTup (Jc (cImm (cIdx (cVar 3) (c2 pMod (cVar 4) (cK (.int 39))))) (Jc (cImm (cIdx (cVar 3) (cVar 6))) (Jc (c2 pSub (Jo Jb (aOw (cMv 0) (some 0) (aRo (cK (.int 9)) aNil))) (cK (.int 4))) cNil)))) (gSet 7)) (sSeq (sIf (cTt (c2 pEq (Jo Jb (aOw (cMv 0) (some 0) (aRo (cK (.int 2)) aNil))) (cK (.int 0)))) (sAsg (cTup (Jc (cImm (cIdx (cVar 7) (cK (.int 1)))) (Jc (cImm (cIdx (cVar 7) (cK (.int 0)))) (Jc (c1 pNeg (cIdx (cVar 7) (cK (.int 2)))) cNil)))) (gSet 7)) sNil) (YN (cMut 5 kdL Zv (lVar 5) (Jc (Jo Jb (aOw (cMv 0) (some 0) (aRo (c2 pAdd (cVar 4) (cK (.int 1))) aNil))) (Jc (cGet 7) cNil)))))))
def QM:CS:=(sSeq (sAsg (cK (.str "abcdefghijklmnopqrstuvwxyz")) (gSet 2)) (sSeq (sAsg (cLc (UX (Jc (cK (.int 40)) cNil)) [4] (gSet 4) cYes (c2 pAdd (cIdx (cVar 2) (c2 pMod (c2 Ug (cK (.int 7)) (cVar 4)) (cK (.int 26)))) (c2 QQ (cK (.str "q")) (c2 pDiv (cVar 4) (cK (.int 26)))))) (gSet 3)) (sSeq (sAsg (cLst cNil) (gSet 5)) (sSeq (sFor (UX (Jc (cVar 1) cNil)) (gSet 4) Uc) (sRet (cTup (Jc (cGet 3) (Jc (cGet 5) cNil))))))))
def YE:List D→FR:=YQ 8 [true,false] QM
theorem ok__law_long {f:Addr} {fd:FuncData} (F:Fun K "_law_long" "_law_long" JR f fd) (z_range:mg "range" = none) (z_int:mg "int" = none) (z_min:mg "min" = none) (d__law_take:Fd P w K mg base 1 "_law_take" ["_law_state", "_law_many"] [true,false] Jb):FnOk P w K mg base (L2.CX P w) 2 f fd ["_law_state", "_law_many"] (spF K mg [true,false] YE):=by
 refine' fn_ok (M:=_) (Vs:=_) F sc__law_long rfl ?hv fun cdv A outer s H E hr=>?hb
 case hb =>
  have hr:Room 1 (cxOf (L2.CX P w) P w K mg base ["_law_state", "_law_many", "_law_letters", "_law_names_here", "_law_k", "_law_found", "_law_to", "_law_joining"] "_law_long" (defScope JR) f cdv A outer s H E).A:=hr
  have hN:(cxOf (L2.CX P w) P w K mg base ["_law_state", "_law_many", "_law_letters", "_law_names_here", "_law_k", "_law_found", "_law_to", "_law_joining"] "_law_long" (defScope JR) f cdv A outer s H E).N.Nodup:=sc__law_long.nd
  have tk:Takes (cxOf (L2.CX P w) P w K mg base ["_law_state", "_law_many", "_law_letters", "_law_names_here", "_law_k", "_law_found", "_law_to", "_law_joining"] "_law_long" (defScope JR) f cdv A outer s H E) (fun cls d _ H=>E cls d H):=takes_of rfl rfl rfl rfl
  have hp:=passes_of (X:=cxOf (L2.CX P w) P w K mg base ["_law_state", "_law_many", "_law_letters", "_law_names_here", "_law_k", "_law_found", "_law_to", "_law_joining"] "_law_long" (defScope JR) f cdv A outer s H E) rfl
  have D__law_take:=(d__law_take).mono (k:=1) (by omega)
  refine'(Jd (Jp hN Up) (Jd (Qf (own:=[("_law_k", 4)]) [4] rfl hN (Zy (by rfl) z_range (Js (SO.sb Jg) JF)) (blkOk_by (N:=["_law_state", "_law_many", "_law_letters", "_law_names_here", "_law_k", "_law_found", "_law_to", "_law_joining"]) (sc:=defScope JR) (own:=[("_law_k", 4)]) (by decide +kernel)) (fun _ _ _ _ _=>(Jt 4 hN)) (fun _ _ _ _ _=>Qd) (fun _ _ _ _ _=>(Jq YK (Yc hr (Ja 2) (SO.sb (Jq UV (SO.sb (Jq Ub (SO.sb Jg) (Ja 4))) (SO.sb Jg)))) (SO.sb (Jq od_mulS (SO.sb Up) (SO.sb (Jq Jc9 (Ja 4) (SO.sb Jg))))))) rfl (by decide) (by decide) (by intro _;rfl) (by rfl) (by rfl) (by rfl)) (Jd (Jp hN (Zm JA)) (Jd (ZH hp rfl (Zy (by rfl) z_range (Js (Ja 1) JF)) (Jt 4 hN) (Jd (Jp hN (JI (od_minG hr rfl) (by rfl) z_min (by rfl) (Js (SO.sb Jg) (Js (SO.sb (Jq YK (SO.sb (Jq YK (SO.sb (Jq UV (Ja 4) (SO.sb Jg))) (SO.sb Jg))) (SO.sb (Jq Ub (SO.sb (YM od_int1 (by rfl) z_int (by rfl) (Js (SO.sb (QY (od_gtG hr) (Ja 4) (SO.sb Jg))) JF))) (SO.sb (Jm D__law_take hr tk (JD (Jl (SO.sb Jg) Jk)))))))) JF)))) (Jd (Jp hN (UB (Jf (SB.imm (Yc hr (Ja 3) (SO.sb (Jq UV (Ja 4) (SO.sb Jg))))) (Jf (SB.imm (Yc hr (Ja 3) (Ja 6))) (Jf (Jq Jan (SO.sb (Jm D__law_take hr tk (JD (Jl (SO.sb Jg) Jk)))) (SO.sb Jg)) JA))))) (Jd (YU (JG (ZD hr) (SO.sb (Jm D__law_take hr tk (JD (Jl (SO.sb Jg) Jk)))) (SO.sb Jg)) (Jv (Jp hN (UB (Jf (SB.imm (Yc hr (Ja 7) (SO.sb Jg))) (Jf (SB.imm (Yc hr (Ja 7) (SO.sb Jg))) (Jf (Qu (Yc hr (Ja 7) (SO.sb Jg))) JA)))))) Ys) (Jv (Ut (SO.sb (so_insert (YS 5) (Jf (Jm D__law_take hr tk (JD (Jl (SO.sb (Jq YK (Ja 4) (SO.sb Jg))) Jk))) (Jf (Yj 7) JA)) (by decide) (by rfl) (by rfl) (by rfl) (by rfl) (by rfl))))))))) (Jv (Yl (UB (Jf (Yj 3) (Jf (Yj 5) JA)))))))))
 case hv=>decide
abbrev JC:Stmt:=top 10
theorem sc__law_holding:FnScope ["_law_joinings_here", "_law_marks", "_law_held", "_law_number", "_law_one", "_law_other", "_law_step", "_law_mark", "_law_further", "_law_name"] ["_law_joinings_here"] (defScope JC):=⟨rfl,rfl,rfl,by decide +kernel,rfl,by decide +kernel,by decide +kernel⟩
def Yh:CS:=(sSeq (sAsg (cTup (Jc (cImm (Ja1 (cVar 1) (cVar 4) (cImm (cVar 4)))) (Jc (cImm (Ja1 (cVar 1) (cVar 5) (cImm (cVar 5)))) cNil))) (Yt 2 (Ji (gSet 7) (Ji (gSet 8) Yx)))) (sIf (cTt (c2 pNe (cVar 7) (cVar 8))) (sSeq (YN (cMut 2 kdL Yk (lVar 2) (Jc (cGet 3) cNil))) (sSeq (YN (Jab 1 kdM QF (Jc (Jas 1 [9,7] (JbM 1 none [9,7] (cLc (ZQ (cVar 1)) [9] (gSet 9) (cTt (c2 pEq (cIdx (cVar 1) (cVar 9)) (cVar 8))) (cTup (Jc (cGet 9) (Jc (cImm (cVar 7)) cNil)))))) cNil))) (YN (cMut 1 kdM QR (lVar 1) (Jc (QE (((cVar 4),(cImm (cVar 7)))::(((cVar 5),(cImm (cVar 7)))::[]))) cNil))))) sNil))
def Zs:CS:=(sSeq (sAsg (cK (.dct .m [] [])) (gSet 1)) (sSeq (sAsg (cLst cNil) (gSet 2)) (sSeq (sFor (Jaq (cVar 0)) (Yt 2 (Ji (gSet 3) (Ji (Yt 3 (Ji (gSet 4) (Ji (gSet 5) (Ji (gSet 6) Yx)))) Yx))) Yh) (sRet (cGet 2)))))
def Ya:List D→FR:=YQ 10 [false] Zs
theorem ok__law_holding {f:Addr} {fd:FuncData} (F:Fun K "_law_holding" "_law_holding" JC f fd) (z_enumerate:mg "enumerate" = none):FnOk P w K mg base (L2.CX P w) 1 f fd ["_law_joinings_here"] (spF K mg [false] Ya):=by
 refine' fn_ok (M:=_) (Vs:=_) F sc__law_holding rfl ?hv fun cdv A outer s H E hr=>?hb
 case hb =>
  have hr:Room 0 (cxOf (L2.CX P w) P w K mg base ["_law_joinings_here", "_law_marks", "_law_held", "_law_number", "_law_one", "_law_other", "_law_step", "_law_mark", "_law_further", "_law_name"] "_law_holding" (defScope JC) f cdv A outer s H E).A:=hr
  have hN:(cxOf (L2.CX P w) P w K mg base ["_law_joinings_here", "_law_marks", "_law_held", "_law_number", "_law_one", "_law_other", "_law_step", "_law_mark", "_law_further", "_law_name"] "_law_holding" (defScope JC) f cdv A outer s H E).N.Nodup:=sc__law_holding.nd
  have tk:Takes (cxOf (L2.CX P w) P w K mg base ["_law_joinings_here", "_law_marks", "_law_held", "_law_number", "_law_one", "_law_other", "_law_step", "_law_mark", "_law_further", "_law_name"] "_law_holding" (defScope JC) f cdv A outer s H E) (fun cls d _ H=>E cls d H):=takes_of rfl rfl rfl rfl
  have hp:=passes_of (X:=cxOf (L2.CX P w) P w K mg base ["_law_joinings_here", "_law_marks", "_law_held", "_law_number", "_law_one", "_law_other", "_law_step", "_law_mark", "_law_further", "_law_name"] "_law_holding" (defScope JC) f cdv A outer s H E) rfl
  refine'(Jd (Jp hN JbK) (Jd (Jp hN (Zm JA)) (Jd (ZH hp rfl (JbJ (by rfl) z_enumerate (Ja 0)) (Uy rfl (Jw (Jt 3 hN) (Jw (Uy rfl (Jw (Jt 4 hN) (Jw (Jt 5 hN) (Jw (Jt 6 hN) Ua)))) Ua))) (Jd (UA (UB (Jf (SB.imm (Jbc hr (Ja 1) (Ja 4) (SB.imm (Ja 4)) ⟨(by rfl),(by rfl),(by rfl),(by rfl)⟩ (by decide) (by decide))) (Jf (SB.imm (Jbc hr (Ja 1) (Ja 5) (SB.imm (Ja 5)) ⟨(by rfl),(by rfl),(by rfl),(by rfl)⟩ (by decide) (by decide))) JA))) (Uy rfl (Jw (Jt 7 hN) (Jw (Jt 8 hN) Ua)))) (Jv (YU (JG (Zf hr) (Ja 7) (Ja 8)) (Jd (Ut (SO.sb (Qm (YS 2) (Jf (Yj 3) JA) (by decide) (by rfl) (by rfl) (by rfl) (by rfl) (by rfl)))) (Jd (Ut (SO.sb (so_updLV rfl 1 (Jf (so_lend 1 [9,7] (so_lock 1 none [9,7] (JcM (own:=[("_law_name", 9)]) [9] rfl hN (si_keys (Ja 1)) (blkOk_by (N:=["_law_joinings_here", "_law_marks", "_law_held", "_law_number", "_law_one", "_law_other", "_law_step", "_law_mark", "_law_further", "_law_name"]) (sc:=defScope JC) (own:=[("_law_name", 9)]) (by decide +kernel)) (fun _ _ _ _ _=>(Jt 9 hN)) (fun _ _ _ _ _=>(Jct (JG (ZD hr) (Yc hr (Ja 1) (Ja 9)) (Ja 8)))) (fun _ _ _ _ _=>(UB (Jf (Yj 9) (Jf (SB.imm (Ja 7)) JA)))) rfl (by decide) (by decide) (by intro _;rfl)))) JA) (by rfl) (by first | exact Or.inl rfl | exact Or.inr (Or.inl rfl) | exact Or.inr (Or.inr rfl)) (by decide) (by decide) (by rfl) (by rfl) (by rfl) (by rfl) (by rfl)))) (Jv (Ut (SO.sb (so_updD (YS 1) (Jf (Jbp (Zp (Ja 4) (SB.imm (Ja 7)) (Zp (Ja 5) (SB.imm (Ja 7)) Jbl)) (by rfl) (by rfl) (by intro h;cases h) (by decide)) JA) (by decide) (by rfl) (by rfl) (by rfl) (by rfl) (by rfl))))))) Ys)))) (Jv (Yl (Yj 2))))))
 case hv=>decide
abbrev Yq:Stmt:=top 1
theorem sc_head_of:FnScope ["heads", "name"] ["heads", "name"] (defScope Yq):=⟨rfl,rfl,rfl,by decide +kernel,rfl,by decide +kernel,by decide +kernel⟩
def Zh:CS:=(sAsg (cImm (cIdx (cVar 0) (cVar 1))) (gSet 1))
def Uw:CT:=(cTt (c2 pNe (Ja1 (cVar 0) (cVar 1) (cImm (cVar 1))) (cVar 1)))
def Jbb:CS:=(sSeq (Jbv (fun _=>100000) Uw Zh) (sRet (cImm (cVar 1))))
def YY:List D→FR:=YQ 2 [false,false] Jbb
theorem ok_head_of {f:Addr} {fd:FuncData} (F:Fun K "head_of" "head_of" Yq f fd)  : FnOk P w K mg base (L2.CX P w) 1 f fd ["heads", "name"] (spF K mg [false,false] YY):=by
 refine' fn_ok (M:=_) (Vs:=_) F sc_head_of rfl ?hv fun cdv A outer s H E hr=>?hb
 case hb =>
  have hr:Room 0 (cxOf (L2.CX P w) P w K mg base ["heads", "name"] "head_of" (defScope Yq) f cdv A outer s H E).A:=hr
  have hN:(cxOf (L2.CX P w) P w K mg base ["heads", "name"] "head_of" (defScope Yq) f cdv A outer s H E).N.Nodup:=sc_head_of.nd
  have tk:Takes (cxOf (L2.CX P w) P w K mg base ["heads", "name"] "head_of" (defScope Yq) f cdv A outer s H E) (fun cls d _ H=>E cls d H):=takes_of rfl rfl rfl rfl
  have hp:=passes_of (X:=cxOf (L2.CX P w) P w K mg base ["heads", "name"] "head_of" (defScope Yq) f cdv A outer s H E) rfl
  refine'(Jd (JbB (fun _=>100000) hp (JG (Zf hr) (Jbc hr (Ja 0) (Ja 1) (SB.imm (Ja 1)) ⟨(by rfl),(by rfl),(by rfl),(by rfl)⟩ (by decide) (by decide)) (Ja 1)) (Jv (Jp hN (SB.imm (Yc hr (Ja 0) (Ja 1)))))) (Jv (Yl (SB.imm (Ja 1)))))
 case hv=>decide
abbrev JM:Stmt:=top 2
theorem sc_holding_of:FnScope ["joinings", "heads", "found", "number", "one", "other", "step", "head", "further"] ["joinings"] (defScope JM):=⟨rfl,rfl,rfl,by decide +kernel,rfl,by decide +kernel,by decide +kernel⟩
def Yz:CS:=(sSeq (sPar 7 8 (Jc (Jo YY (aRo (cVar 1) (aRo (cVar 4) aNil))) (Jc (Jo YY (aRo (cVar 1) (aRo (cVar 5) aNil))) cNil))) (sIf (cTt (c2 pNe (cVar 7) (cVar 8))) (sSeq (sAsg (cGet 7) (UH 1 (lVar 1) (cVar 8))) (YN (cMut 2 kdL Yk (lVar 2) (Jc (cGet 3) cNil)))) sNil))
def ZW:CS:=(sSeq (sAsg (cK (.dct .m [] [])) (gSet 1)) (sSeq (sAsg (cLst cNil) (gSet 2)) (sSeq (sFor (Jaq (cVar 0)) (Yt 2 (Ji (gSet 3) (Ji (Yt 3 (Ji (gSet 4) (Ji (gSet 5) (Ji (gSet 6) Yx)))) Yx))) Yz) (sRet (cGet 2)))))
def YH:List D→FR:=YQ 9 [false] ZW
theorem ok_holding_of {f:Addr} {fd:FuncData} (F:Fun K "holding_of" "holding_of" JM f fd) (z_enumerate:mg "enumerate" = none) (d_head_of:Fd P w K mg base 1 "head_of" ["heads", "name"] [false,false] YY):FnOk P w K mg base (L2.CX P w) 2 f fd ["joinings"] (spF K mg [false] YH):=by
 refine' fn_ok (M:=_) (Vs:=_) F sc_holding_of rfl ?hv fun cdv A outer s H E hr=>?hb
 case hb =>
  have hr:Room 1 (cxOf (L2.CX P w) P w K mg base ["joinings", "heads", "found", "number", "one", "other", "step", "head", "further"] "holding_of" (defScope JM) f cdv A outer s H E).A:=hr
  have hN:(cxOf (L2.CX P w) P w K mg base ["joinings", "heads", "found", "number", "one", "other", "step", "head", "further"] "holding_of" (defScope JM) f cdv A outer s H E).N.Nodup:=sc_holding_of.nd
  have tk:Takes (cxOf (L2.CX P w) P w K mg base ["joinings", "heads", "found", "number", "one", "other", "step", "head", "further"] "holding_of" (defScope JM) f cdv A outer s H E) (fun cls d _ H=>E cls d H):=takes_of rfl rfl rfl rfl
  have hp:=passes_of (X:=cxOf (L2.CX P w) P w K mg base ["joinings", "heads", "found", "number", "one", "other", "step", "head", "further"] "holding_of" (defScope JM) f cdv A outer s H E) rfl
  have D_head_of:=(d_head_of).mono (k:=1) (by omega)
  refine'(Jd (Jp hN JbK) (Jd (Jp hN (Zm JA)) (Jd (ZH hp rfl (JbJ (by rfl) z_enumerate (Ja 0)) (Uy rfl (Jw (Jt 3 hN) (Jw (Uy rfl (Jw (Jt 4 hN) (Jw (Jt 5 hN) (Jw (Jt 6 hN) Ua)))) Ua))) (Jd (JcA rfl hN (Jf (Jm D_head_of hr tk (Jl (Ja 1) (Jl (Ja 4) Jk))) (Jf (Jm D_head_of hr tk (Jl (Ja 1) (Jl (Ja 5) Jk))) JA))) (Jv (YU (JG (Zf hr) (Ja 7) (Ja 8)) (Jd (UA (Yj 7) (ZO hr (W1:=fun cls d _ H=>E cls d H) (W2:=fun cls d _ H=>E cls d H) (YS 1) (Ja 8))) (Jv (Ut (SO.sb (Qm (YS 2) (Jf (Yj 3) JA) (by decide) (by rfl) (by rfl) (by rfl) (by rfl) (by rfl)))))) Ys)))) (Jv (Yl (Yj 2))))))
 case hv=>decide
abbrev YJ:Stmt:=top 3
theorem sc_eldest:FnScope ["names", "joinings"] ["names", "joinings"] (defScope YJ):=⟨rfl,rfl,rfl,by decide +kernel,rfl,by decide +kernel,by decide +kernel⟩
def JbI:CS:=(sRet (Jo YH (aRo (cVar 1) aNil)))
def Yp:List D→FR:=YQ 2 [false,false] JbI
theorem ok_eldest {f:Addr} {fd:FuncData} (F:Fun K "eldest" "eldest" YJ f fd) (d_holding_of:Fd P w K mg base 2 "holding_of" ["joinings"] [false] YH):FnOk P w K mg base (L2.CX P w) 3 f fd ["names", "joinings"] (spF K mg [false,false] Yp):=by
 refine' fn_ok (M:=_) (Vs:=_) F sc_eldest rfl ?hv fun cdv A outer s H E hr=>?hb
 case hb =>
  have hr:Room 2 (cxOf (L2.CX P w) P w K mg base ["names", "joinings"] "eldest" (defScope YJ) f cdv A outer s H E).A:=hr
  have hN:(cxOf (L2.CX P w) P w K mg base ["names", "joinings"] "eldest" (defScope YJ) f cdv A outer s H E).N.Nodup:=sc_eldest.nd
  have tk:Takes (cxOf (L2.CX P w) P w K mg base ["names", "joinings"] "eldest" (defScope YJ) f cdv A outer s H E) (fun cls d _ H=>E cls d H):=takes_of rfl rfl rfl rfl
  have hp:=passes_of (X:=cxOf (L2.CX P w) P w K mg base ["names", "joinings"] "eldest" (defScope YJ) f cdv A outer s H E) rfl
  have D_holding_of:=(d_holding_of).mono (k:=2) (by omega)
  refine'(Jv (Yl (Jm D_holding_of hr tk (Jl (Ja 1) Jk))))
 case hv=>decide
abbrev JO:Stmt:=top 9
theorem sc__law_class:FnScope ["_law_joinings_here", "_law_name", "_law_found", "_law_grown", "_law_one", "_law_other", "_law_step"] ["_law_joinings_here", "_law_name"] (defScope JO):=⟨rfl,rfl,rfl,by decide +kernel,rfl,by decide +kernel,by decide +kernel⟩
def JW:CS:=(sIf (cTt (c2 pNe (c2 pInW (cVar 4) (cVar 2)) (c2 pInW (cVar 5) (cVar 2)))) (sSeq (sAsg (cK (.bl true)) (UH 2 (lVar 2) (cVar 4))) (sSeq (sAsg (cK (.bl true)) (UH 2 (lVar 2) (cVar 5))) (sAsg (cK (.bl true)) (gSet 3)))) sNil)
def Uq:CS:=(sSeq (sAsg (cK (.bl false)) (gSet 3)) (sFor (Ur (cVar 0)) (Yt 3 (Ji (gSet 4) (Ji (gSet 5) (Ji (gSet 6) Yx)))) JW))
def YO:CT:=(cTt (cVar 3))
def ZR:CS:=(sSeq (sAsg (QE (((cVar 1),(cK (.bl true)))::[])) (gSet 2)) (sSeq (sAsg (cK (.bl true)) (gSet 3)) (sSeq (Jbv (fun _=>100000) YO Uq) (sRet (cGet 2)))))
def JK:List D→FR:=YQ 7 [false,false] ZR
theorem ok__law_class {f:Addr} {fd:FuncData} (F:Fun K "_law_class" "_law_class" JO f fd)  : FnOk P w K mg base (L2.CX P w) 1 f fd ["_law_joinings_here", "_law_name"] (spF K mg [false,false] JK):=by
 refine' fn_ok (M:=_) (Vs:=_) F sc__law_class rfl ?hv fun cdv A outer s H E hr=>?hb
 case hb =>
  have hr:Room 0 (cxOf (L2.CX P w) P w K mg base ["_law_joinings_here", "_law_name", "_law_found", "_law_grown", "_law_one", "_law_other", "_law_step"] "_law_class" (defScope JO) f cdv A outer s H E).A:=hr
  have hN:(cxOf (L2.CX P w) P w K mg base ["_law_joinings_here", "_law_name", "_law_found", "_law_grown", "_law_one", "_law_other", "_law_step"] "_law_class" (defScope JO) f cdv A outer s H E).N.Nodup:=sc__law_class.nd
  have tk:Takes (cxOf (L2.CX P w) P w K mg base ["_law_joinings_here", "_law_name", "_law_found", "_law_grown", "_law_one", "_law_other", "_law_step"] "_law_class" (defScope JO) f cdv A outer s H E) (fun cls d _ H=>E cls d H):=takes_of rfl rfl rfl rfl
  have hp:=passes_of (X:=cxOf (L2.CX P w) P w K mg base ["_law_joinings_here", "_law_name", "_law_found", "_law_grown", "_law_one", "_law_other", "_law_step"] "_law_class" (defScope JO) f cdv A outer s H E) rfl
  refine'(Jd (Jp hN (Jbp (Zp (Ja 1) UP Jbl) (by rfl) (by rfl) (by intro h;cases h) (by decide))) (Jd (Jp hN UP) (Jd (JbB (fun _=>100000) hp (JcO (Ja 3)) (Jd (Jp hN UP) (Jv (ZH hp rfl (ZL (Ja 0)) (Uy rfl (Jw (Jt 4 hN) (Jw (Jt 5 hN) (Jw (Jt 6 hN) Ua)))) (Jv (YU (JG (Zf hr) (SO.sb (QY (Jc1 hr) (Ja 4) (Ja 2))) (SO.sb (QY (Jc1 hr) (Ja 5) (Ja 2)))) (Jd (UA UP (ZO hr (W1:=fun cls d _ H=>E cls d H) (W2:=fun cls d _ H=>E cls d H) (YS 2) (Ja 4))) (Jd (UA UP (ZO hr (W1:=fun cls d _ H=>E cls d H) (W2:=fun cls d _ H=>E cls d H) (YS 2) (Ja 5))) (Jv (Jp hN UP)))) Ys)))))) (Jv (Yl (Yj 2))))))
 case hv=>decide
abbrev Jy:Stmt:=top 12
theorem sc__law_right:FnScope ["_law_state", "_law_names_here", "_law_joinings_here", "_law_due", "_law_handed", "_law_found", "_law_row", "_law_classes_there", "_law_name", "_law_turned", "_law_one", "_law_other", "_law_step", "_law_many", "_law_number"] ["_law_state", "_law_names_here", "_law_joinings_here"] (defScope Jy):=⟨rfl,rfl,rfl,by decide +kernel,rfl,by decide +kernel,by decide +kernel⟩
def YA:CS:=(sSeq (sAsg (Jo Yp (aRo (cVar 1) (aRo (cVar 4) aNil))) (gSet 5)) (sSeq (sIf (tcOr (cTt (c2 pNe (cL JaS (Jc (cVar 5) cNil)) (cL JaS (Jc (cVar 3) cNil)))) (cTt (c2 pNe (cL Yi (Jc (cVar 4) cNil)) (cVar 2)))) (sRet (cK (.bl false))) sNil) (YN (cMut 5 kdL Yk (lVar 5) (Jc (c1 pNeg (cK (.int 1))) cNil)))))
def ZZ:CS:=(sSeq (sAsg (Jo Ya (aRo (cVar 2) aNil)) (gSet 3)) (sSeq (sFor (Ur (cFix (cTup (Jc (cL Yi (Jc (cVar 2) cNil)) (Jc (cL Yr (Jc (cVar 2) cNil)) cNil))))) (gSet 4) YA) (sSeq (sAsg (cL Yi (Jc (cVar 2) cNil)) (gSet 6)) (sSeq (sIf (cTt (c2 pNe (Jo Yp (aRo (cVar 1) (aRo (cVar 6) aNil))) (cVar 3))) (sRet (cK (.bl false))) sNil) (sSeq (sIf (cTt (c2 pNe (cVar 1) (cLst cNil))) (YN (cMut 6 kdL Yk (lVar 6) (Jc (cTup (Jc (cImm (cIdx (cVar 1) (Jo Jb (aOw (cMv 0) (some 0) (aRo (cL pLen (Jc (cVar 1) cNil)) aNil))))) (Jc (cImm (cIdx (cVar 1) (Jo Jb (aOw (cMv 0) (some 0) (aRo (cL pLen (Jc (cVar 1) cNil)) aNil))))) (Jc (cK (.int 0)) cNil)))) cNil))) sNil) (sSeq (sIf (cTt (c2 pNe (Jo Yp (aRo (cVar 1) (aRo (cVar 6) aNil))) (Jo Ya (aRo (cVar 6) aNil)))) (sRet (cK (.bl false))) sNil) (sSeq (sAsg (UE (cLc (Ur (cVar 1)) [8] (gSet 8) cYes (cL Yr (Jc (cL Yn (Jc (Jo JK (aRo (cVar 2) (aRo (cVar 8) aNil))) cNil)) cNil)))) (gSet 7)) (sSeq (sIf (cTt (c2 pNe (cL pLen (Jc (cVar 3) cNil)) (c2 pSub (cL pLen (Jc (cVar 1) cNil)) (cL pLen (Jc (cVar 7) cNil))))) (sRet (cK (.bl false))) sNil) (sSeq (sAsg (cLc (Ur (cVar 2)) [10,11,12] (Yt 3 (Ji (gSet 10) (Ji (gSet 11) (Ji (gSet 12) Yx)))) cYes (cTup (Jc (cGet 11) (Jc (cGet 10) (Jc (c1 pNeg (cVar 12)) cNil))))) (gSet 9)) (sSeq (sIf (tcOr (cTt (c2 pNe (Jo Yp (aRo (cL Yr (Jc (cVar 1) cNil)) (aRo (c2 pAdd (cVar 2) (cVar 9)) aNil))) (cVar 3))) (cTt (c2 pNe (Jo Yp (aRo (cFix (Jcw (cVar 1))) (aRo (c2 pAdd (cVar 9) (cVar 2)) aNil))) (cVar 3)))) (sRet (cK (.bl false))) sNil) (sSeq (sAsg (Jo Jb (aOw (cMv 0) (some 0) (aRo (c2 pAdd (cL pLen (Jc (cVar 2) cNil)) (cK (.int 1))) aNil))) (gSet 13)) (sRet (c2 pEq (Jo Yp (aRo (cVar 1) (aRo (cSl (cVar 2) pNo (pAt (cVar 13))) aNil))) (cLc (Ur (cVar 3)) [14] (gSet 14) (cTt (c2 pLtG (cVar 14) (cVar 13))) (cGet 14)))))))))))))))
def YI:List D→FR:=YQ 15 [true,false,false] ZZ
theorem ok__law_right {f:Addr} {fd:FuncData} (F:Fun K "_law_right" "_law_right" Jy f fd) (z_list:mg "list" = none) (z_tuple:mg "tuple" = none) (z_repr:mg "repr" = none) (z_len:mg "len" = none) (z_sorted:mg "sorted" = none) (z_set:mg "set" = none) (z_reversed:mg "reversed" = none) (d__law_holding:Fd P w K mg base 1 "_law_holding" ["_law_joinings_here"] [false] Ya) (d_eldest:Fd P w K mg base 3 "eldest" ["names", "joinings"] [false,false] Yp) (d__law_take:Fd P w K mg base 1 "_law_take" ["_law_state", "_law_many"] [true,false] Jb) (d__law_class:Fd P w K mg base 1 "_law_class" ["_law_joinings_here", "_law_name"] [false,false] JK):FnG P w K mg base 4 f fd ["_law_state", "_law_names_here", "_law_joinings_here"] (spF K mg [true,false,false] YI):=by
 refine' Jdc (M:=_) (Vs:=_) F sc__law_right rfl ?hv fun cdv A outer s H E hr hG=>?hb
 case hb =>
  have hr:Room 3 (cxOf (L2.CX P w) P w K mg base ["_law_state", "_law_names_here", "_law_joinings_here", "_law_due", "_law_handed", "_law_found", "_law_row", "_law_classes_there", "_law_name", "_law_turned", "_law_one", "_law_other", "_law_step", "_law_many", "_law_number"] "_law_right" (defScope Jy) f cdv A outer s H E).A:=hr
  have hG:(cxOf (L2.CX P w) P w K mg base ["_law_state", "_law_names_here", "_law_joinings_here", "_law_due", "_law_handed", "_law_found", "_law_row", "_law_classes_there", "_law_name", "_law_turned", "_law_one", "_law_other", "_law_step", "_law_many", "_law_number"] "_law_right" (defScope Jy) f cdv A outer s H E).A.guards=some []:=hG
  have hN:(cxOf (L2.CX P w) P w K mg base ["_law_state", "_law_names_here", "_law_joinings_here", "_law_due", "_law_handed", "_law_found", "_law_row", "_law_classes_there", "_law_name", "_law_turned", "_law_one", "_law_other", "_law_step", "_law_many", "_law_number"] "_law_right" (defScope Jy) f cdv A outer s H E).N.Nodup:=sc__law_right.nd
  have tk:Takes (cxOf (L2.CX P w) P w K mg base ["_law_state", "_law_names_here", "_law_joinings_here", "_law_due", "_law_handed", "_law_found", "_law_row", "_law_classes_there", "_law_name", "_law_turned", "_law_one", "_law_other", "_law_step", "_law_many", "_law_number"] "_law_right" (defScope Jy) f cdv A outer s H E) (fun cls d _ H=>E cls d H):=takes_of rfl rfl rfl rfl
  have hp:=passes_of (X:=cxOf (L2.CX P w) P w K mg base ["_law_state", "_law_names_here", "_law_joinings_here", "_law_due", "_law_handed", "_law_found", "_law_row", "_law_classes_there", "_law_name", "_law_turned", "_law_one", "_law_other", "_law_step", "_law_many", "_law_number"] "_law_right" (defScope Jy) f cdv A outer s H E) rfl
  have D__law_holding:=(d__law_holding).mono (k:=3) (by omega)
  have D_eldest:=(d_eldest).mono (k:=3) (by omega)
  have D__law_take:=(d__law_take).mono (k:=3) (by omega)
  have D__law_class:=(d__law_class).mono (k:=3) (by omega)
  refine'(Jd (Jp hN (Jm D__law_holding hr tk (Jl (Ja 2) Jk))) (Jd (ZH hp rfl (ZL (SO.sb (JcL (UB (Jf (YM (Qg rfl) (by rfl) z_list (by rfl) (Js (Ja 2) JF)) (Jf (YM Jap (by rfl) z_tuple (by rfl) (Js (Ja 2) JF)) JA)))))) (Jt 4 hN) (Jd (Jp hN (Jm D_eldest hr tk (Jl (Ja 1) (Jl (Ja 4) Jk)))) (Jd (YU (SW.st (JdE (JG (Zf hr) (SO.sb (JI (Jcm hr hG) (by rfl) z_repr (by rfl) (Js (Ja 5) JF))) (SO.sb (JI (Jcm hr hG) (by rfl) z_repr (by rfl) (Js (Ja 3) JF)))) (JcK (JG (Zf hr) (SO.sb (YM (Qg rfl) (by rfl) z_list (by rfl) (Js (Ja 4) JF))) (Ja 2))))) (Jv (Yl UP)) Ys) (Jv (Ut (SO.sb (Qm (YS 5) (Jf (Qu (SO.sb Jg)) JA) (by decide) (by rfl) (by rfl) (by rfl) (by rfl) (by rfl)))))))) (Jd (Jp hN (YM (Qg rfl) (by rfl) z_list (by rfl) (Js (Ja 2) JF))) (Jd (YU (JG (Zf hr) (SO.sb (Jm D_eldest hr tk (Jl (Ja 1) (Jl (Ja 6) Jk)))) (Ja 3)) (Jv (Yl UP)) Ys) (Jd (YU (JG (Zf hr) (Ja 1) (SO.sb (Zm JA))) (Jv (Ut (SO.sb (Qm (YS 6) (Jf (UB (Jf (SB.imm (Yc hr (Ja 1) (SO.sb (Jm D__law_take hr tk (JD (Jl (SO.sb (JI YW (by rfl) z_len (by rfl) (Js (Ja 1) JF))) Jk)))))) (Jf (SB.imm (Yc hr (Ja 1) (SO.sb (Jm D__law_take hr tk (JD (Jl (SO.sb (JI YW (by rfl) z_len (by rfl) (Js (Ja 1) JF))) Jk)))))) (Jf Jg JA)))) JA) (by decide) (by rfl) (by rfl) (by rfl) (by rfl) (by rfl))))) Ys) (Jd (YU (JG (Zf hr) (SO.sb (Jm D_eldest hr tk (Jl (Ja 1) (Jl (Ja 6) Jk)))) (SO.sb (Jm D__law_holding hr tk (Jl (Ja 6) Jk)))) (Jv (Yl UP)) Ys) (Jd (Jp hN (so_sortSetU hr rfl (by rfl) z_sorted (by rfl) z_set (SO.sb (JcM (own:=[("_law_name", 8)]) [8] rfl hN (ZL (Ja 1)) (blkOk_by (N:=["_law_state", "_law_names_here", "_law_joinings_here", "_law_due", "_law_handed", "_law_found", "_law_row", "_law_classes_there", "_law_name", "_law_turned", "_law_one", "_law_other", "_law_step", "_law_many", "_law_number"]) (sc:=defScope Jy) (own:=[("_law_name", 8)]) (by decide +kernel)) (fun _ _ _ _ _=>(Jt 8 hN)) (fun _ _ _ _ _=>Qd) (fun _ _ _ _ _=>(YM Jap (by rfl) z_tuple (by rfl) (Js (SO.sb (JI (od_sortedG hr rfl) (by rfl) z_sorted (by rfl) (Js (SO.sb (Jm D__law_class hr takes0 (Jl (Ja 2) (Jl (Ja 8) Jk)))) JF))) JF))) rfl (by decide) (by decide) (by intro _;rfl))) (by rfl))) (Jd (YU (JG (Zf hr) (SO.sb (JI YW (by rfl) z_len (by rfl) (Js (Ja 3) JF))) (SO.sb (Jq Jan (SO.sb (JI YW (by rfl) z_len (by rfl) (Js (Ja 1) JF))) (SO.sb (JI YW (by rfl) z_len (by rfl) (Js (Ja 7) JF)))))) (Jv (Yl UP)) Ys) (Jd (Qf (own:=[("_law_one", 10),("_law_other", 11),("_law_step", 12)]) [10,11,12] rfl hN (ZL (Ja 2)) (blkOk_by (N:=["_law_state", "_law_names_here", "_law_joinings_here", "_law_due", "_law_handed", "_law_found", "_law_row", "_law_classes_there", "_law_name", "_law_turned", "_law_one", "_law_other", "_law_step", "_law_many", "_law_number"]) (sc:=defScope Jy) (own:=[("_law_one", 10),("_law_other", 11),("_law_step", 12)]) (by decide +kernel)) (fun _ _ _ _ _=>(Uy rfl (Jw (Jt 10 hN) (Jw (Jt 11 hN) (Jw (Jt 12 hN) Ua))))) (fun _ _ _ _ _=>Qd) (fun _ _ _ _ _=>(UB (Jf (Yj 11) (Jf (Yj 10) (Jf (Qu (Ja 12)) JA))))) rfl (by decide) (by decide) (by intro _;rfl) (by rfl) (by rfl) (by rfl)) (Jd (YU (SW.st (JdE (JG (Zf hr) (SO.sb (Jm D_eldest hr tk (Jl (SO.sb (YM Jap (by rfl) z_tuple (by rfl) (Js (Ja 1) JF))) (Jl (SO.sb (Jq YK (Ja 2) (Ja 9))) Jk)))) (Ja 3)) (JcK (JG (Zf hr) (SO.sb (Jm D_eldest hr tk (Jl (SO.sb (JcL (so_revL rfl (by rfl) z_list (by rfl) z_reversed (Ja 1)))) (Jl (SO.sb (Jq YK (Ja 9) (Ja 2))) Jk)))) (Ja 3))))) (Jv (Yl UP)) Ys) (Jd (Jp hN (Jm D__law_take hr tk (JD (Jl (SO.sb (Jq YK (SO.sb (JI YW (by rfl) z_len (by rfl) (Js (Ja 2) JF))) (SO.sb Jg))) Jk)))) (Jv (Yl (QY (ZD hr) (SO.sb (Jm D_eldest hr tk (Jl (Ja 1) (Jl (SO.sb (Zg (Ja 2) JbZ (Jb2 (Ja 13)) (by decide))) Jk)))) (SO.sb (JcM (own:=[("_law_number", 14)]) [14] rfl hN (ZL (Ja 3)) (blkOk_by (N:=["_law_state", "_law_names_here", "_law_joinings_here", "_law_due", "_law_handed", "_law_found", "_law_row", "_law_classes_there", "_law_name", "_law_turned", "_law_one", "_law_other", "_law_step", "_law_many", "_law_number"]) (sc:=defScope Jy) (own:=[("_law_number", 14)]) (by decide +kernel)) (fun _ _ _ _ _=>(Jt 14 hN)) (fun _ _ _ _ _=>(Jct (JG (od_ltG hr) (Ja 14) (Ja 13)))) (fun _ _ _ _ _=>(Yj 14)) rfl (by decide) (by decide) (by intro _;rfl)))))))))))))))))
 case hv=>decide
abbrev Ux:Stmt:=top 13
theorem sc_law:FnScope ["_law_script", "_law_state", "_law_turn", "_law_names_here", "_law_joinings_here"] ["_law_script"] (defScope Ux):=⟨rfl,rfl,rfl,by decide +kernel,rfl,by decide +kernel,by decide +kernel⟩
def Ql:CS:=(sSeq (sAsg (Jo Yd (aOw (cMv 1) (some 1) aNil)) (gSet 3)) (sSeq (sAsg (Jo JV (aOw (cMv 1) (some 1) (aRo (cVar 3) aNil))) (gSet 4)) (sSeq (sIf (Jco (cTt (c2 pEq (cVar 2) (cK (.int 0)))) (cTt (c2 pEq (Jo Jb (aOw (cMv 1) (some 1) (aRo (cK (.int 16)) aNil))) (cK (.int 0))))) (sAsg (Jo YE (aOw (cMv 1) (some 1) (aRo (cK (.int 60)) aNil))) (Yt 2 (Ji (gSet 3) (Ji (gSet 4) Yx)))) sNil) (sIf (Jcx (cTt (Jo YI (aOw (cMv 1) (some 1) (aRo (cVar 3) (aRo (cVar 4) aNil)))))) (sRet (cK (.bl false))) sNil))))
def JdC:CS:=(sSeq (sAsg (Jo YG (aRo (cVar 0) aNil)) (gSet 1)) (sSeq (sFor (UX (Jc (c2 pAdd (cK (.int 1)) (Jo Jb (aOw (cMv 1) (some 1) (aRo (cK (.int 3)) aNil)))) cNil)) (gSet 2) Ql) (sRet (cK (.bl true)))))
def JcX:List D→FR:=YQ 5 [false] JdC
theorem ok_law {f:Addr} {fd:FuncData} (F:Fun K "law" "law" Ux f fd) (z_range:mg "range" = none) (d__law_begin:Fd P w K mg base 1 "_law_begin" ["_law_script"] [false] YG) (d__law_take:Fd P w K mg base 1 "_law_take" ["_law_state", "_law_many"] [true,false] Jb) (d__law_names:Fd P w K mg base 2 "_law_names" ["_law_state"] [true] Yd) (d__law_joinings:Fd P w K mg base 2 "_law_joinings" ["_law_state", "_law_names_here"] [true,false] JV) (d__law_long:Fd P w K mg base 2 "_law_long" ["_law_state", "_law_many"] [true,false] YE) (d__law_right:FdG P w K mg base 4 "_law_right" ["_law_state", "_law_names_here", "_law_joinings_here"] [true,false,false] YI):FnG P w K mg base 5 f fd ["_law_script"] (spF K mg [false] JcX):=by
 refine' Jdc (M:=_) (Vs:=_) F sc_law rfl ?hv fun cdv A outer s H E hr hG=>?hb
 case hb =>
  have hr:Room 4 (cxOf (L2.CX P w) P w K mg base ["_law_script", "_law_state", "_law_turn", "_law_names_here", "_law_joinings_here"] "law" (defScope Ux) f cdv A outer s H E).A:=hr
  have hG:(cxOf (L2.CX P w) P w K mg base ["_law_script", "_law_state", "_law_turn", "_law_names_here", "_law_joinings_here"] "law" (defScope Ux) f cdv A outer s H E).A.guards=some []:=hG
  have hN:(cxOf (L2.CX P w) P w K mg base ["_law_script", "_law_state", "_law_turn", "_law_names_here", "_law_joinings_here"] "law" (defScope Ux) f cdv A outer s H E).N.Nodup:=sc_law.nd
  have tk:Takes (cxOf (L2.CX P w) P w K mg base ["_law_script", "_law_state", "_law_turn", "_law_names_here", "_law_joinings_here"] "law" (defScope Ux) f cdv A outer s H E) (fun cls d _ H=>E cls d H):=takes_of rfl rfl rfl rfl
  have hp:=passes_of (X:=cxOf (L2.CX P w) P w K mg base ["_law_script", "_law_state", "_law_turn", "_law_names_here", "_law_joinings_here"] "law" (defScope Ux) f cdv A outer s H E) rfl
  have D__law_begin:=(d__law_begin).mono (k:=4) (by omega)
  have D__law_take:=(d__law_take).mono (k:=4) (by omega)
  have D__law_names:=(d__law_names).mono (k:=4) (by omega)
  have D__law_joinings:=(d__law_joinings).mono (k:=4) (by omega)
  have D__law_long:=(d__law_long).mono (k:=4) (by omega)
  have D__law_right:=(d__law_right).mono (k:=4) (by omega)
  refine'(Jd (Jp hN (Jm D__law_begin hr tk (Jl (Ja 0) Jk))) (Jd (ZH hp rfl (Zy (by rfl) z_range (Js (SO.sb (Jq YK (SO.sb Jg) (SO.sb (Jm D__law_take hr tk (JD (Jl (SO.sb Jg) Jk)))))) JF)) (Jt 2 hN) (Jd (Jp hN (Jm D__law_names hr tk (JD Jk))) (Jd (Jp hN (Jm D__law_joinings hr tk (JD (Jl (Ja 3) Jk)))) (Jd (YU (SW.st (sw_and (JG (ZD hr) (Ja 2) (SO.sb Jg)) (sw_and1 (JG (ZD hr) (SO.sb (Jm D__law_take hr tk (JD (Jl (SO.sb Jg) Jk)))) (SO.sb Jg))))) (Jv (UA (Jm D__law_long hr tk (JD (Jl (SO.sb Jg) Jk))) (Uy rfl (Jw (Jt 3 hN) (Jw (Jt 4 hN) Ua))))) Ys) (Jv (YU (st_not (JcO (SO.sb (so_callG D__law_right hr hG tk (JD (Jl (Ja 3) (Jl (Ja 4) Jk))))))) (Jv (Yl UP)) Ys)))))) (Jv (Yl UP))))
 case hv=>decide
end
end VS
namespace VS
open PySem L2 SeqAt PySem.Spec PyProof.Rows
def Jdz:He.FnD:=⟨("_law_begin", none), "_law_begin", "_law_begin", defArgs JN,defBody JN,defScope JN⟩
def Jdp:He.FnD:=⟨("_law_take", none), "_law_take", "_law_take", defArgs JT,defBody JT,defScope JT⟩
def Jdo:He.FnD:=⟨("_law_names", none), "_law_names", "_law_names", defArgs JP,defBody JP,defScope JP⟩
def Jdr:He.FnD:=⟨("_law_joinings", none), "_law_joinings", "_law_joinings", defArgs Jr,defBody Jr,defScope Jr⟩
def Jdm:He.FnD:=⟨("_law_long", none), "_law_long", "_law_long", defArgs JR,defBody JR,defScope JR⟩
def JdD:He.FnD:=⟨("_law_holding", none), "_law_holding", "_law_holding", defArgs JC,defBody JC,defScope JC⟩
def Jdk:He.FnD:=⟨("head_of", none), "head_of", "head_of", defArgs Yq,defBody Yq,defScope Yq⟩
def Jdw:He.FnD:=⟨("holding_of", none), "holding_of", "holding_of", defArgs JM,defBody JM,defScope JM⟩
def Jdx:He.FnD:=⟨("eldest", none), "eldest", "eldest", defArgs YJ,defBody YJ,defScope YJ⟩
def Jc6:He.FnD:=⟨("_law_class", none), "_law_class", "_law_class", defArgs JO,defBody JO,defScope JO⟩
def JcT:He.FnD:=⟨("_law_right", none), "_law_right", "_law_right", defArgs Jy,defBody Jy,defScope Jy⟩
def JcU:He.FnD:=⟨("law", none), "law", "law", defArgs Ux,defBody Ux,defScope Ux⟩
def fz0:List He.FnD:=[Jdz,Jdp,Jdo,Jdr,Jdm,JdD,Jdk,Jdw,Jdx,Jc6,JcT,JcU]
def qz0 (K:PySem.W.Frag):List Bool:=[
 decide (PySem.W.nsIn K mainGlobals "_law_begin" = some (some (.ref (He.ga K "_law_begin")))),
 decide (PySem.W.keepIn K (.ref (He.ga K "_law_begin"))=true),
 decide (PySem.W.nsIn K mainGlobals "_law_take" = some (some (.ref (He.ga K "_law_take")))),
 decide (PySem.W.keepIn K (.ref (He.ga K "_law_take"))=true),
 decide (PySem.W.nsIn K mainGlobals "_law_names" = some (some (.ref (He.ga K "_law_names")))),
 decide (PySem.W.keepIn K (.ref (He.ga K "_law_names"))=true),
 decide (PySem.W.nsIn K mainGlobals "_law_joinings" = some (some (.ref (He.ga K "_law_joinings")))),
 decide (PySem.W.keepIn K (.ref (He.ga K "_law_joinings"))=true),
 decide (PySem.W.nsIn K mainGlobals "_law_long" = some (some (.ref (He.ga K "_law_long")))),
 decide (PySem.W.keepIn K (.ref (He.ga K "_law_long"))=true),
 decide (PySem.W.nsIn K mainGlobals "_law_holding" = some (some (.ref (He.ga K "_law_holding")))),
 decide (PySem.W.keepIn K (.ref (He.ga K "_law_holding"))=true),
 decide (PySem.W.nsIn K mainGlobals "head_of" = some (some (.ref (He.ga K "head_of")))),
 decide (PySem.W.keepIn K (.ref (He.ga K "head_of"))=true),
 decide (PySem.W.nsIn K mainGlobals "holding_of" = some (some (.ref (He.ga K "holding_of")))),
 decide (PySem.W.keepIn K (.ref (He.ga K "holding_of"))=true),
 decide (PySem.W.nsIn K mainGlobals "eldest" = some (some (.ref (He.ga K "eldest")))),
 decide (PySem.W.keepIn K (.ref (He.ga K "eldest"))=true),
 decide (PySem.W.nsIn K mainGlobals "_law_class" = some (some (.ref (He.ga K "_law_class")))),
 decide (PySem.W.keepIn K (.ref (He.ga K "_law_class"))=true),
 decide (PySem.W.nsIn K mainGlobals "_law_right" = some (some (.ref (He.ga K "_law_right")))),
 decide (PySem.W.keepIn K (.ref (He.ga K "_law_right"))=true),
 decide (PySem.W.nsIn K mainGlobals "law" = some (some (.ref (He.ga K "law")))),
 decide (PySem.W.keepIn K (.ref (He.ga K "law"))=true),
 decide (PySem.W.nsIn K mainGlobals "list" = some none),
 decide (PySem.W.nsIn K mainGlobals "len" = some none),
 decide (PySem.W.nsIn K mainGlobals "divmod" = some none),
 decide (PySem.W.nsIn K mainGlobals "range" = some none),
 decide (PySem.W.nsIn K mainGlobals "int" = some none),
 decide (PySem.W.nsIn K mainGlobals "min" = some none)]
def qz1 (K:PySem.W.Frag):List Bool:=[
 decide (PySem.W.nsIn K mainGlobals "enumerate" = some none),
 decide (PySem.W.nsIn K mainGlobals "tuple" = some none),
 decide (PySem.W.nsIn K mainGlobals "repr" = some none),
 decide (PySem.W.nsIn K mainGlobals "sorted" = some none),
 decide (PySem.W.nsIn K mainGlobals "set" = some none),
 decide (PySem.W.nsIn K mainGlobals "reversed" = some none)]
def cz0 (K:PySem.W.Frag):List Bool:=[(He.Fa.code ("_law_begin", none) "_law_begin").ok K,(He.Fa.code ("_law_take", none) "_law_take").ok K,(He.Fa.code ("_law_names", none) "_law_names").ok K,(He.Fa.code ("_law_joinings", none) "_law_joinings").ok K,(He.Fa.code ("_law_long", none) "_law_long").ok K,(He.Fa.code ("_law_holding", none) "_law_holding").ok K,(He.Fa.code ("head_of", none) "head_of").ok K,(He.Fa.code ("holding_of", none) "holding_of").ok K,(He.Fa.code ("eldest", none) "eldest").ok K,(He.Fa.code ("_law_class", none) "_law_class").ok K,(He.Fa.code ("_law_right", none) "_law_right").ok K,(He.Fa.code ("law", none) "law").ok K]
abbrev AlZ:Type:=List Bool × (List He.FnV × List (Option (List (Option (Str × Int)))))
def obZ (K:PySem.W.Frag):AlZ:=([(qz0 K).all id,(qz1 K).all id,(cz0 K).all id],(fz0).map (fun d=>He.fnObs K d.at_),[])
def valZ (w:World):AlZ:=([true,true,true],(fz0).map He.FnD.val,[])
def lz0:List PySem.Str:=["head_of", "holding_of", "eldest", "_law_begin", "_law_take", "_law_names", "_law_joinings", "_law_class", "_law_holding", "_law_long", "_law_right"]
def loZ:List PySem.Str:=lz0
def asZ:List Addr:=[3,2,21,28,35,42,49,56,61,68,73,78,83,90]++List.range' 15 700
abbrev RZ:PySem.W.OpenRow:=PySem.W.OpenLaw.row PySem.Challenge.rw_joinback_k13_eldest
abbrev qvZ:Program:=PySem.W.view RZ.prog [13]
abbrev hkZ:PySem.W.Hook:=Jdj asZ obZ valZ
theorem runZ_false (w:World):HandSHeadRun.RunEq RZ qvZ hkZ (obT asZ obZ) 6000 loZ (w.withFollow "special-get-raises" false):=by
 intro os
 kernel_rfl
theorem runZ_true (w:World):HandSHeadRun.RunEq RZ qvZ hkZ (obT asZ obZ) 6000 loZ (w.withFollow "special-get-raises" true):=by
 intro os
 kernel_rfl
theorem runZ (w:World):HandSHeadRun.RunEq RZ qvZ hkZ (obT asZ obZ) 6000 loZ w:=PySem.W.byRow2 "special-get-raises" (P:=fun w=>HandSHeadRun.RunEq RZ qvZ hkZ (obT asZ obZ) 6000 loZ w) runZ_false runZ_true w
theorem Uf {K:PySem.W.Frag} {w:World} {d:He.FnD} (c2:(obZ K).2.1=(valZ w).2.1) (i:Nat) (h1:(obZ K).2.1[i]?=some (He.fnObs K d.at_)) (h2:(valZ w).2.1[i]?=some d.val) (c:(He.Fa.code d.at_ d.qual).ok K=true) :
  ∃oc od osl kV doc pm an cdv ct,K.lookup (He.fAd K d.at_)=some ⟨oc,od,.func (PySem.W.fnOf d.name d.qual d.params d.body d.scope .none kV doc pm an cdv ct),osl⟩∧PySem.W.codeIn K cdv d.qual=true:=by
 rw[c2,h2]at h1
 exact He.fn_ok (Option.some.inj h1).symm c
end VS
namespace VS
open PySem L2 SeqAt
theorem Jbf {α:Type} {f:α→D} {vs:List Nat} {g:D→Env→Option Env} {ct:CT} {ce:CE} {env:Env} {y:α→D} {t:α→Bool}:∀{xs:List α},(∀x∈xs,∃env1,g (f x) env=some env1∧env1.length=env.length∧ct env1=.ok (t x) env1∧(t x=true→ce env1=.ok (y x) env1)∧YB env1 vs=env) →
  YT vs g ct ce (xs.map f) env=some ((xs.filter t).map y,env)
 | [],_=>rfl
 | d::ds,h=>by
  obtain⟨env1,h1,h2,h3,h4,h5⟩:=h d (by simp)
  have ih:=Jbf (f:=f) (vs:=vs) (g:=g) (ct:=ct) (ce:=ce) (env:=env) (y:=y) (t:=t) (xs:=ds) fun d hd=>h d (by simp[hd])
  rw[List.map_cons]
  unfold YT
  cases ht:t d with
  | true=>rw[ht]at h3;simp[h1,h2,h3,h4 ht,h5,ih,ht]
  | false=>rw[ht]at h3;simp[h1,h2,h3,h5,ih,ht]
theorem Jcs {α:Type} {f:α→D} {vs:List Nat} {g:D→Env→Option Env} {ce:CE} {env:Env} {y:α→D} {xs:List α} (h:∀x∈xs,∃env1,g (f x) env=some env1∧env1.length=env.length∧ce env1=.ok (y x) env1∧YB env1 vs=env) :
  YT vs g cYes ce (xs.map f) env=some (xs.map y,env):=by
 have:=Jbf (f:=f) (vs:=vs) (g:=g) (ct:=cYes) (ce:=ce) (env:=env) (y:=y) (t:=fun _=>true) (xs:=xs) fun x hx=>by
  obtain⟨env1,h1,h2,h3,h4⟩:=h x hx
  exact⟨env1,h1,h2,rfl,fun _=>h3,h4⟩
 rw[this,List.filter_eq_self.mpr fun _ _=>rfl]
theorem Jh {c1 c2:CS} {env env1:Env} {o:O} (h1:c1 env=.nx env1) (h2:c2 env1=o):sSeq c1 c2 env=o:=by rw[Jdn,h1];exact h2
theorem UN {n:Nat} {io:List Bool} {b:CS} {ds os:List D} {d:D} {env env0:Env} (h1:ds.length=io.length∧io.length≤n) (h0:ZF n ds=env0) (hb:b env0=.rt d env) (ho:Yw io env=some os):YQ n io b ds=.ok d os:=by
 unfold YQ
 rw[if_pos h1,h0,hb]
 simp[JaK,ho]
mutual
theorem pyEq_refl:∀{n:Nat} {d:D},eqOk n d=true→pyEq d d=true
 | _,.non,_=>by unfold pyEq;rfl
 | _,.bl b,_=>by unfold pyEq;simp
 | _,.int i,_=>by unfold pyEq;simp
 | _,.str s,_=>by unfold pyEq;simp
 | n+1,.lst g ds,h=>by unfold eqOk at h;unfold pyEq;exact pyEqs_refl h
 | n+1,.tup ds,h=>by unfold eqOk at h;unfold pyEq;exact pyEqs_refl h
 | 0,.lst g ds,h=>by simp[eqOk]at h
 | 0,.tup ds,h=>by simp[eqOk]at h
 | _,.ty _,h=>by simp[eqOk]at h
 | _,.dct _ _ _,h=>by simp[eqOk]at h
 | _,.obj _ _ _ _,h=>by simp[eqOk]at h
theorem pyEqs_refl:∀{n:Nat} {ds:List D},eqOks n ds=true→pyEqs ds ds=true
 | _,[],_=>by unfold pyEqs;rfl
 | n,d::ds,h=>by
  unfold eqOks at h
  have:=Bool.and_eq_true_iff.mp h
  unfold pyEqs
  rw[pyEq_refl this.1,pyEqs_refl this.2];rfl
end
theorem Jbs {g g':Fl} {ds:List D} (h:eqOks 39 ds=true):pNe (.lst g ds) (.lst g' ds)=some (.bl false):=by
 have e:eqOk 40 (.lst g ds)=true:=by unfold eqOk;exact h
 have e':eqOk 40 (.lst g' ds)=true:=by unfold eqOk;exact h
 have p:pyEq (.lst g ds) (.lst g' ds)=true:=by unfold pyEq;exact pyEqs_refl h
 unfold pNe;rw[e,e',p];rfl
theorem eq_self {g g':Fl} {ds:List D} (h:eqOks 39 ds=true):pEq (.lst g ds) (.lst g' ds)=some (.bl true):=by
 have e:eqOk 40 (.lst g ds)=true:=by unfold eqOk;exact h
 have e':eqOk 40 (.lst g' ds)=true:=by unfold eqOk;exact h
 have p:pyEq (.lst g ds) (.lst g' ds)=true:=by unfold pyEq;exact pyEqs_refl h
 unfold pEq;rw[e,e',p];rfl
theorem Jbd {α:Type} (f:α→D):∀(k:Nat) (xs:List α),numD k (xs.map f)=(xs.zipIdx k).map fun p=>D.tup [.int (p.2:Nat),f p.1]
 | _,[]=>rfl
 | k,n::ns=>by simp[numD,Jbd f (k+1) ns]
end VS
namespace VS
open PySem L2 SeqAt
section
variable {js:List J}
def sel (js:List J) (p:Nat→Bool):Nat→List J
 | 0=>[]
 | k+1=>match js[k]? with
  | some j=>if p k then sel js p k++[j] else sel js p k
  | none=>sel js p k
def allB:Nat→Bool:=fun _=>true
noncomputable def hB (js:List J) (k:Nat):Bool:=@decide (∃j,js[k]?=some j∧¬ Conn (sel js allB k) j.1 j.2.1) (Classical.propDecidable _)
theorem hB_t {k:Nat}:hB js k=true↔∃j,js[k]?=some j∧¬ Conn (sel js allB k) j.1 j.2.1:=by unfold hB;exact @decide_eq_true_iff _ (Classical.propDecidable _)
theorem Jc4 {k:Nat} {j:J} (e:js[k]?=some j):hB js k=true↔¬ Conn (sel js allB k) j.1 j.2.1:=by
 rw[hB_t]
 constructor
 ·rintro ⟨j',e',h⟩;rw[e]at e';cases e';exact h
 ·exact fun h=>⟨j,e,h⟩
variable {n:Nat} {jn:J}
end
end VS
namespace VS
open PySem L2 SeqAt
def kC:Key:=Sum.inr ("cells" : Str)
def kT:Key:=Sum.inr ("turn" : Str)
def st (c:List Int) (t:Int):D:=.dct .m [kC,kT] [.lst .m (c.map D.int),.int t]
theorem kCT:¬ kC=kT:=by decide
theorem kTC:¬ kT=kC:=by decide
theorem ix_turn (c:List Int) (t:Int):ixD (st c t) (.str "turn")=some (.int t):=by
 show (Yb [kC,kT] [.lst .m (c.map D.int),.int t] kT)=_
 simp[Yb,kCT,kTC]
theorem ix_cells (c:List Int) (t:Int):ixD (st c t) (.str "cells")=some (.lst .m (c.map D.int)):=by
 show (Yb [kC,kT] [.lst .m (c.map D.int),.int t] kC)=_
 simp[Yb,kCT,kTC]
theorem st_turn (c:List Int) (t x:Int):stD (st c t) (.str "turn") (.int x)=some (st c x):=by
 have hz:2 < sizeLine:=ZG (by decide)
 show ((D.str "turn").key.bind fun k=>if [kC,kT].length < sizeLine then some (putD [kC,kT] [.lst .m (c.map D.int),.int t] k (.int x)) else none)=_
 have hk:(D.str "turn").key=some kT:=rfl
 rw[hk]
 have hi:idxK [kC,kT] kT=some 1:=by simp[idxK,kCT,kTC]
 simp only[Option.bind_some,List.length_cons,List.length_nil]
 rw[if_pos (show 0+1+1 < sizeLine from hz)]
 unfold putD
 rw[hi];rfl
theorem kid_cells (c:List Int) (t:Int):∃G,kidD (st c t) (.str "cells")=some (.lst .m (c.map D.int),G)∧∀c':List Int,G (.lst .m (c'.map D.int))=st c' t:=by
 have hk:(D.str "cells").key=some kC:=rfl
 have hi:idxK [kC,kT] kC=some 0:=by simp[idxK,kCT,kTC]
 refine⟨fun y=>.dct .m [kC,kT] ([D.lst .m (c.map D.int),.int t].set 0 y),?_,fun c'=>rfl⟩
 show ((D.str "cells").key.bind fun k=>(idxK [kC,kT] k).bind fun j=>([D.lst .m (c.map D.int),.int t][j]?).map fun x=>(x,fun y=>D.dct .m [kC,kT] ([D.lst .m (c.map D.int),.int t].set j y)))=_
 rw[hk,Option.bind_some,hi];rfl
@[simp] theorem JQ (c:List Int) (t:Int):(st c t).nol=true:=by
 show nols [D.lst .m (c.map D.int),.int t]=true
 simp[Jac (f:=D.int) (fun _=>rfl)]
@[simp] theorem JS (c:List Int) (t:Int):(st c t).imm=false:=rfl
structure StO (B:Int) (c:List Int) (t:Int):Prop where
 ne:0 < c.length
 le:c.length≤64
 t0:0≤t
 tB:t≤B
theorem StO.up {B B':Int} {c:List Int} {t:Int} (h:StO B c t) (hb:B≤B'):StO B' c t:=⟨h.ne,h.le,h.t0,by have:=h.tB;omega⟩
def TKE (m t1:Int) (k:Nat) (ck:Int) (o5 o6:Option D) (S:D):Env:=[some S,some (.int m),some (.int t1),some (.int k),some (.int ck),o5,o6]
theorem JZ {B:Int} {c:List Int} {t:Int} (h:StO B c t) (hB:B≤1000000) {m:Int} (h0:0 < m) (h1:m < 2 ^ 63):∃r c',Jb [st c t,.int m]=.ok (.int r) [st c' (t+1)]∧0≤r∧r < m∧StO (B+1) c' (t+1):=by
 have ht:=h.t0
 have hne:=h.ne
 have hT:=h.tB
 have hl:(0:Int) < c.length:=by have:=h.ne;omega
 have hl2:(c.length:Int) < 18446744073709551616:=by have:=h.le;omega
 have e1:=ix_turn c t
 have e2:=st_turn c t (t+1)
 have e3:=ix_cells c (t+1)
 have hs0:0≤(t+1) % (c.length:Int):=Int.emod_nonneg _ (by omega)
 have hs1:(t+1) % (c.length:Int) < c.length:=Int.emod_lt_of_pos _ hl
 obtain⟨k,hk⟩:∃k:Nat,(t+1) % (c.length:Int)=k:=⟨((t+1) % (c.length:Int)).toNat,by omega⟩
 have hkl:k < c.length:=by omega
 have e4:atI (c.map D.int) (k:Int)=some (.int c[k]):=by rw[Za (by simpa using hkl)];simp[hkl]
 obtain⟨G,e5,e6⟩:=kid_cells c (t+1)
 have hm64:m < 18446744073709551616:=by omega
 have b1:-18446744073709551616 < t+1∧t+1 < 18446744073709551616:=by omega
 by_cases hc:(1000000000000000000:Int)≤c[k]
 ·-- digits
  have e7:stD (.lst .m (c.map D.int)) (.int (k:Int)) (.int (c[k] / m))=some (.lst .m ((c.set k (c[k] / m)).map D.int)):=by
   have:ixN (c.map D.int).length (k:Int)=some k:=by unfold ixN;simp;omega
   unfold stD
   simp only[this,Option.map_some,List.map_set]
  have e8:=e6 (c.set k (c[k] / m))
  rw[List.map_set]at e8
  refine⟨c[k] % m,c.set k (c[k] / m),?_,Int.emod_nonneg _ (by omega),Int.emod_lt_of_pos _ h0,⟨by simpa using h.ne,by simpa using h.le,by omega,by omega⟩⟩
  refine UN ⟨rfl,by decide⟩ rfl (?_:Ud _=.rt _ (TKE m (t+1) k c[k] (some (.int (c[k] % m))) none (st (c.set k (c[k] / m)) (t+1)))) rfl
  generalize hS0:st c t=S0 at *
  generalize hS1:st c (t+1)=S1 at *
  generalize hS2:st (c.set k (c[k] / m)) (t+1)=S2 at *
  generalize c[k]=ck at *
  unfold Ud
  refine Jh (env1:=[some S0,some (.int m),some (.int (t+1)),none,none,none,none]) (by simp[ZF,e1]) ?_
  refine Jh (env1:=[some S1,some (.int m),some (.int (t+1)),none,none,none,none]) (by simp[lVar,e2]) ?_
  refine Jh (env1:=[some S1,some (.int m),some (.int (t+1)),some (.int k),none,none,none]) (by simp[e3,hne,hl2,hk]) ?_
  refine Jh (env1:=TKE m (t+1) k ck none none S1) (by unfold TKE;simp[e3,e4]) ?_
  rw[Jdn]
  have:(sIf (cTt (c2 pGeG (cVar 4) (c2 pPow (cK (.int 10)) (cK (.int 18))))) (sSeq (sAsg (cL Qh (Jc (cVar 4) (Jc (cVar 1) cNil))) (Yt 2 (Ji (UH 0 (lIdx (lVar 0) (cK (.str "cells"))) (cVar 3)) (Ji (gSet 5) Yx)))) (sRet (cGet 5))) sNil) (TKE m (t+1) k ck none none S1)=.rt (.int (ck % m)) (TKE m (t+1) k ck (some (.int (ck % m))) none S2):=by
   unfold TKE;simp[hc,h0,hm64,lIdx,lVar,e5,e7,e8]
  rw[this];rfl
 ·have hb:c[k] < 1000000000000000000:=by omega
  let x:=(c[k] % 2147483629+(t+1) * (t+1) * 7919+11) * 48271 % 2147483647
  have hx0:0≤x:=Int.emod_nonneg _ (by decide)
  have hx1:x < 2147483647:=Int.emod_lt_of_pos _ (by decide)
  have b2:-18446744073709551616 < x∧x < 18446744073709551616:=by omega
  refine⟨(x * x % 2147483587+(t+1) * 104729) * 39373 % 2147483629 / 64 % m,c,?_,Int.emod_nonneg _ (by omega),Int.emod_lt_of_pos _ h0,⟨h.ne,h.le,by omega,by omega⟩⟩
  refine UN ⟨rfl,by decide⟩ rfl (?_:Ud _=.rt _ (TKE m (t+1) k c[k] none (some (.int (x * x % 2147483587))) (st c (t+1)))) rfl
  have hx:x=(c[k] % 2147483629+(t+1) * (t+1) * 7919+11) * 48271 % 2147483647:=rfl
  generalize hS0:st c t=S0 at *
  generalize hS1:st c (t+1)=S1 at *
  generalize x=y at *
  generalize c[k]=ck at *
  unfold Ud
  refine Jh (env1:=[some S0,some (.int m),some (.int (t+1)),none,none,none,none]) (by simp[ZF,e1]) ?_
  refine Jh (env1:=[some S1,some (.int m),some (.int (t+1)),none,none,none,none]) (by simp[lVar,e2]) ?_
  refine Jh (env1:=[some S1,some (.int m),some (.int (t+1)),some (.int k),none,none,none]) (by simp[e3,hne,hl2,hk]) ?_
  refine Jh (env1:=TKE m (t+1) k ck none none S1) (by unfold TKE;simp[e3,e4]) ?_
  refine Jh (env1:=TKE m (t+1) k ck none none S1) (by unfold TKE;simp[hc]) ?_
  refine Jh (env1:=TKE m (t+1) k ck none (some (.int y)) S1) (by unfold TKE;simp[b1,hx]) ?_
  refine Jh (env1:=TKE m (t+1) k ck none (some (.int (y * y % 2147483587))) S1) (by unfold TKE;simp[b2]) ?_
  unfold TKE;simp[h0,hm64]
end VS
namespace VS
open PySem L2 SeqAt
def lit16:Str := "b aa zebra c quartzes ab m knows d mm likes z a ba abcdefgh y"
def Jds:List Str:=Txt.split lit16 " "
def JcQ (n:Str):Bool:=decide (1≤n.length) && decide (n.length≤8) && n.cps.toList.all fun c=>decide (c∈("abcdefghijklmnopqrstuvwxyz" : Str).cps.toList)
theorem nms16_facts:Jds.length=16∧Jds.Nodup∧(Jds.all JcQ)=true:=by decide +kernel
theorem v_split16:Jah (.str "b aa zebra c quartzes ab m knows d mm likes z a ba abcdefgh y") (.str " ")=some (.lst .m (Jds.map D.str)) :=
 if_pos (e:=none) (c:=((" " : Str).length == 0)=false∧lit16.length+2≤sizeLine) ⟨by decide +kernel,Ye (by decide +kernel)⟩
structure NB (ns:List Str):Prop where
 nd:ns.Nodup
 len:ns.length≤16
 ok:∀n∈ns,JcQ n=true
 lit:∀n∈ns,n∈Jds
theorem v_names {B:Int} {c:List Int} {t:Int} (h:StO B c t) (hB:B≤900000):∃ns c' t',Yd [st c t]=.ok (.lst .m (ns.map D.str)) [st c' t']∧NB ns∧StO (B+4) c' t':=by
 obtain⟨f1,f2,f3⟩:=nms16_facts
 have hs:=v_split16
 generalize hws:Jds=ws at f1 f2 f3 hs
 have ok:∀(k n:Nat),NB ((ws.drop k++ws.take k).take n):=fun k n=>by
  have p:(ws.drop k++ws.take k).Perm ws:=by
   have:=List.perm_append_comm (l₁:=ws.drop k) (l₂:=ws.take k)
   rwa[List.take_append_drop]at this
  refine⟨(p.nodup_iff.mpr f2).sublist (List.take_sublist _ _),?_,fun n hn=>List.all_eq_true.mp f3 n (p.mem_iff.mp ((List.take_sublist _ _).subset hn)),fun n hn=>by rw[hws];exact p.mem_iff.mp ((List.take_sublist _ _).subset hn)⟩
  have:=p.length_eq
  simp only[List.length_take];omega
 obtain⟨r5,c1,e5,p5,q5,s1⟩:=JZ h (by omega) (m:=5) (by decide) (by decide)
 obtain⟨r3,c2',e3,p3,q3,s2⟩:=JZ s1 (by omega) (m:=3) (by decide) (by decide)
 obtain⟨r8,c3,e8,p8,q8,s3⟩:=JZ s2 (by omega) (m:=8) (by decide) (by decide)
 obtain⟨r16,c4,e16,p16,q16,s4⟩:=JZ s3 (by omega) (m:=16) (by decide) (by decide)
 obtain⟨m,hm,hm0⟩:∃m:Int,atI [D.int 4,.int 5,.int 6,.int 7,.int 8,.int 6,.int (10+r5),.int r3] r8=some (.int m)∧0≤m:=by
  have:r8=0∨r8=1∨r8=2∨r8=3∨r8=4∨r8=5∨r8=6∨r8=7:=by omega
  rcases this with z | z | z | z | z | z | z | z<;>subst z
  ·exact⟨4,rfl,by decide⟩
  ·exact⟨5,rfl,by decide⟩
  ·exact⟨6,rfl,by decide⟩
  ·exact⟨7,rfl,by decide⟩
  ·exact⟨8,rfl,by decide⟩
  ·exact⟨6,rfl,by decide⟩
  ·exact⟨10+r5,rfl,by omega⟩
  ·exact⟨r3,rfl,by omega⟩
 have IM:∀i:Nat,imms (List.drop i (ws.map D.str))=true:=fun i=>Us (List.drop_sublist _ _) (Qj (fun _=>rfl) _)
 have IM2:∀i:Nat,imms (List.take i (ws.map D.str))=true:=fun i=>Us (List.take_sublist _ _) (Qj (fun _=>rfl) _)
 have hl:ws.length - r16.toNat+min r16.toNat ws.length≤sizeLine:=Ye (by omega)
 have z8:8≤sizeLine:=Ye (by decide)
 have w16:(ws.length:Int)=16:=by omega
 refine⟨(ws.drop r16.toNat++ws.take r16.toNat).take m.toNat,c4,t+1+1+1+1,?_,ok _ _,s4.up (by omega)⟩
 generalize hS0:st c t=S0 at *
 generalize hS1:st c1 (t+1)=S1 at *
 generalize hS2:st c2' (t+1+1)=S2 at *
 generalize hS3:st c3 (t+1+1+1)=S3 at *
 generalize hS4:st c4 (t+1+1+1+1)=S4 at *
 have n1:S1.nol=true:=by rw[←hS1];simp
 have n2:S2.nol=true:=by rw[←hS2];simp
 have n3:S3.nol=true:=by rw[←hS3];simp
 have n4:S4.nol=true:=by rw[←hS4];simp
 have i1:S0.imm=false:=by rw[←hS0];simp
 have i2:S1.imm=false:=by rw[←hS1];simp
 have i3:S2.imm=false:=by rw[←hS2];simp
 have i4:S3.imm=false:=by rw[←hS3];simp
 unfold Yd YQ Qo
 simp[ZF,JaK,Yw,hs,e5,e3,e8,e16,hm,z8,w16,n1,n2,n3,n4,i1,i2,i3,i4,JbD p16,cut_drop p16,hl,JbD hm0,IM,IM2]
end VS
namespace VS
open PySem L2 SeqAt
abbrev Jn:=Str × Str × Int
def jt (j:Jn):D:=.tup [.str j.1,.str j.2.1,.int j.2.2]
def pt (p:Int × Int):D:=.tup [.int p.1,.int p.2]
@[simp] theorem imm_jt (j:Jn):(jt j).imm=true:=rfl
@[simp] theorem imm_pt (j:Int × Int):(pt j).imm=true:=rfl
@[simp] theorem lend_jt (j:Jn):(jt j).lend=jt j:=rfl
@[simp] theorem lend_pt (j:Int × Int):(pt j).lend=pt j:=rfl
@[simp] theorem UC:∀js:List Jn,imms (js.map jt)=true
 | []=>rfl
 | j::js=>by simp[UC js]
@[simp] theorem imms_pts:∀js:List (Int × Int),imms (js.map pt)=true
 | []=>rfl
 | j::js=>by simp[imms_pts js]
@[simp] theorem YC:∀js:List Jn,lends (js.map jt)=js.map jt
 | []=>rfl
 | j::js=>by simp[YC js]
@[simp] theorem lends_pts:∀js:List (Int × Int),lends (js.map pt)=js.map pt
 | []=>rfl
 | j::js=>by simp[lends_pts js]
@[simp] theorem ZP:∀js:List Str,lends (js.map D.str)=js.map D.str
 | []=>rfl
 | j::js=>by simp[ZP js]
@[simp] theorem nol_jt (j:Jn):(jt j).nol=true:=rfl
@[simp] theorem nol_pt (j:Int × Int):(pt j).nol=true:=rfl
@[simp] theorem Jb3:∀js:List Jn,nols (js.map jt)=true
 | []=>rfl
 | j::js=>by simp[Jb3 js]
@[simp] theorem nols_pts:∀js:List (Int × Int),nols (js.map pt)=true
 | []=>rfl
 | j::js=>by simp[nols_pts js]
@[simp] theorem JaJ:∀js:List Str,nols (js.map D.str)=true
 | []=>rfl
 | j::js=>by simp[JaJ js]
@[simp] theorem nols_ints:∀js:List Int,nols (js.map D.int)=true
 | []=>rfl
 | j::js=>by simp[nols_ints js]
inductive Hold {α:Type} (f:α→D) (js:List α):D→Prop
 | l:Hold f js (.lst .l (js.map f))
 | t:Hold f js (.tup (js.map f))
theorem Ja9 (n:Nat):∀js:List Jn,eqOks (n+1) (js.map jt)=true
 | []=>rfl
 | j::js=>by
  have:=Ja9 n js
  simp only[List.map_cons,eqOks,this,Bool.and_true];rfl
structure JOk (ns:List Str) (js:List Jn):Prop where
 one:∀j∈js,j.1∈ns
 other:∀j∈js,j.2.1∈ns
 lo:∀j∈js,-1000000000000≤j.2.2
 hi:∀j∈js,j.2.2≤1000000000000
theorem JOk.snoc {ns:List Str} {js:List Jn} (h:JOk ns js) {x y:Str} {z:Int} (hx:x∈ns) (hy:y∈ns) (h1:-1000000000000≤z) (h2:z≤1000000000000):JOk ns (js++[(x,y,z)]):=by
 have go:∀{P:Jn→Prop},(∀j∈js,P j)→P (x,y,z)→∀j∈js++[(x,y,z)],P j:=fun h1 h2 j hj=>by
  rcases List.mem_append.mp hj with q | q
  ·exact h1 j q
  ·simp at q;subst q;exact h2
 exact⟨go h.one hx,go h.other hy,go h.lo h1,go h.hi h2⟩
theorem ZB {ns:List Str} {r:Int} (h0:0≤r) (h1:r < ns.length):∃s,s∈ns∧atI (ns.map D.str) r=some (.str s):=by
 obtain⟨x,m,_,e⟩:=Jbj (f:=D.str) h0 h1
 exact⟨x,m,e⟩
theorem at_jt {js:List Jn} {r:Int} (h0:0≤r) (h1:r < js.length):∃j,j∈js∧atI (js.map jt) r=some (jt j):=by
 obtain⟨x,m,_,e⟩:=Jbj (f:=jt) h0 h1
 exact⟨x,m,e⟩
end VS
namespace VS
open PySem L2 SeqAt
section
variable {ns:List Str} {sp:List Int}
def JB (S:D) (ns:List Str) (sp:List Int) (js:List Jn) (o6 o7 o8 o9 o10 o11 o12:Option D):Env:=[some S,some (.lst .l (ns.map D.str)),some (.lst .m (sp.map D.int)),none,none,some (.lst .m (js.map jt)),o6,o7,o8,o9,o10,o11,o12]
theorem st_lastj (a:List Jn) (q:Jn) (x:Jn):stD (.lst .m ((a++[q]).map jt)) (.int (-1)) (jt x)=some (.lst .m ((a++[x]).map jt)):=by
 unfold stD
 have h:ixN ((a++[q]).map jt).length (-1)=some a.length:=by unfold ixN;simp;omega
 simp only[h,Option.map_some]
 congr 2
 simp
def JBM (S:D) (ns:List Str) (sp:List Int) (M:List D) (o6 o7 o8 o9 o10 o11 o12:Option D):Env:=[some S,some (.lst .l (ns.map D.str)),some (.lst .m (sp.map D.int)),none,none,some (.lst .m M),o6,o7,o8,o9,o10,o11,o12]
theorem JaW (a:List Jn) (q:Jn) (x:Jn):stD (.lst .m (a.map jt++[jt q])) (.int (-1)) (jt x)=some (.lst .m (a.map jt++[jt x])):=by
 simpa using st_lastj a q x
theorem Jdi {sp:List Int} {r:Int} (h0:0≤r) (h1:r < sp.length):∃x,x∈sp∧atI (sp.map D.int) r=some (.int x):=by
 obtain⟨x,m,_,e⟩:=Jbj (f:=D.int) h0 h1
 exact⟨x,m,e⟩
theorem v_join_step {B:Int} {c:List Int} {t:Int} (h:StO B c t) (hB:B≤900000) (hpos:0 < ns.length) (hl:ns.length≤40) (hsl:sp.length=ns.length) (hsp:∀x∈sp,-450000000189≤x∧x≤450000000189) {js:List Jn} (hj:JOk ns js) (hjl:js.length≤200) (o6 o7 o8 o9 o10 o11 o12:Option D) :
  ∃js' c' t' p7 p8 p9 p10 p11 p12,Yu (JB (st c t) ns sp js o6 o7 o8 o9 o10 o11 o12)=.nx (JB (st c' t') ns sp js' o6 p7 p8 p9 p10 p11 p12)∧JOk ns js'∧js'.length=js.length+1∧StO (B+7) c' t':=by
 have hl0:(0:Int) < ns.length:=by omega
 obtain⟨rk,ka,e1,k0,k1,s1⟩:=JZ h (by omega) (m:=ns.length) hl0 (by omega)
 obtain⟨rj,kb,e2,j0,j1,s2⟩:=JZ s1 (by omega) (m:=ns.length) hl0 (by omega)
 obtain⟨r3,kc,e3,_,_,s3⟩:=JZ s2 (by omega) (m:=3) (by decide) (by decide)
 obtain⟨x,mx,gx⟩:=ZB k0 k1
 obtain⟨y,my,gy⟩:=ZB j0 j1
 obtain⟨u,mu,gu⟩:=Jdi (sp:=sp) k0 (by omega)
 obtain⟨v,mv,gv⟩:=Jdi (sp:=sp) j0 (by omega)
 have bu:=hsp u mu
 have bv:=hsp v mv
 have hz:js.length < sizeLine:=ZG (by omega)
 obtain⟨z,kd,t4,z1,z2,s4,e4⟩:∃z kd t4,-1000000000000≤z∧z≤1000000000000∧StO (B+4) kd t4∧(sIf (cTt (c2 pEq (Jo Jb (aOw (cMv 0) (some 0) (aRo (cK (.int 3)) aNil))) (cK (.int 0)))) (sAsg (c2 pSub (Jo Jb (aOw (cMv 0) (some 0) (aRo (cK (.int 9)) aNil))) (cK (.int 4))) (gSet 7)) sNil) (JB (st kb (t+1+1)) ns sp js o6 (some (.int (v - u))) o8 (some (.int rk)) (some (.int rj)) o11 o12)=.nx (JB (st kd t4) ns sp js o6 (some (.int z)) o8 (some (.int rk)) (some (.int rj)) o11 o12):=by
  by_cases hr:r3=0
  ·obtain⟨r9,kd,e9,a0,a1,s4⟩:=JZ s3 (by omega) (m:=9) (by decide) (by decide)
   refine⟨r9 - 4,kd,_,by omega,by omega,s4.up (by omega),?_⟩
   have q1:=JS kb (t+1+1)
   have q2:=JS kc (t+1+1+1)
   have q3:=JQ kc (t+1+1+1)
   have q4:=JQ kd (t+1+1+1+1)
   generalize st kb (t+1+1)=A at *
   generalize st kc (t+1+1+1)=A1 at *
   generalize st kd (t+1+1+1+1)=A2 at *
   unfold JB;simp[e3,hr,e9,q1,q2,q3,q4]
  ·refine⟨v - u,kc,_,by omega,by omega,s3.up (by omega),?_⟩
   have q1:=JS kb (t+1+1)
   have q3:=JQ kc (t+1+1+1)
   generalize st kb (t+1+1)=A at *
   generalize st kc (t+1+1+1)=A1 at *
   unfold JB;simp[e3,hr,q1,q3]
 obtain⟨r12,ke,e5,_,_,s5⟩:=JZ s4 (by omega) (m:=12) (by decide) (by decide)
 have hj1:JOk ns (js++[(x,y,z)]):=hj.snoc mx my z1 z2
 have hl1:(0:Int) < (js++[(x,y,z)]).length:=by simp
 have hl2:((js++[(x,y,z)]).length:Int) < 2 ^ 63:=by simp;omega
 have hL:((js++[(x,y,z)]).map jt)=js.map jt++[jt (x,y,z)]:=by simp
 have lm:(js.map jt++[jt (x,y,z)]).length=js.length+1:=by simp
 obtain⟨q,kf,t6,p7,p11,p12,hjq,s6,e6⟩:∃(q:Jn) (kf:List Int) (t6:Int) (p7 p11 p12:Option D),JOk ns (js++[q])∧StO (B+7) kf t6∧(sSeq (sIf (cTt (c2 pEq (cVar 8) (cK (.int 0)))) (sAsg (cImm (cIdx (cVar 5) (Jo Jb (aOw (cMv 0) (some 0) (aRo (cL pLen (Jc (cVar 5) cNil)) aNil))))) (UH 5 (lVar 5) (c1 pNeg (cK (.int 1))))) sNil) (sIf (cTt (c2 pEq (cVar 8) (cK (.int 1)))) (sSeq (sAsg (cImm (cIdx (cVar 5) (Jo Jb (aOw (cMv 0) (some 0) (aRo (cL pLen (Jc (cVar 5) cNil)) aNil))))) (Yt 3 (Ji (gSet 11) (Ji (gSet 12) (Ji (gSet 7) Yx))))) (sAsg (cTup (Jc (cGet 12) (Jc (cGet 11) (Jc (c1 pNeg (cVar 7)) cNil)))) (UH 5 (lVar 5) (c1 pNeg (cK (.int 1)))))) sNil)) (JBM (st ke (t4+1)) ns sp (js.map jt++[jt (x,y,z)]) o6 (some (.int z)) (some (.int r12)) (some (.int rk)) (some (.int rj)) o11 o12)=.nx (JBM (st kf t6) ns sp (js.map jt++[jt q]) o6 p7 (some (.int r12)) (some (.int rk)) (some (.int rj)) p11 p12):=by
  have rep:∀w∈js++[(x,y,z)],JOk ns (js++[w]):=fun w hw=>hj.snoc (hj1.one w hw) (hj1.other w hw) (hj1.lo w hw) (hj1.hi w hw)
  obtain⟨rr,kf,e6,a0,a1,s6⟩:=JZ s5 (by omega) (m:=(js.length:Int)+1) (by omega) (by omega)
  obtain⟨w,hw,gw⟩:=at_jt (js:=js++[(x,y,z)]) a0 (by simpa using a1)
  rw[hL]at gw
  have q1:=JS ke (t4+1)
  have q2:=JQ kf (t4+1+1)
  by_cases h0:r12=0
  ·refine⟨w,kf,_,some (.int z),o11,o12,rep w hw,s6.up (by omega),?_⟩
   have sl:=JaW js (x,y,z) w
   have iw:=imm_jt w
   generalize st ke (t4+1)=A at *
   generalize st kf (t4+1+1)=A1 at *
   generalize hM1:js.map jt++[jt (x,y,z)]=M1 at *
   generalize hM2:js.map jt++[jt w]=M2 at *
   generalize jt w=W at *
   unfold JBM;simp[h0,lm,e6,gw,sl,q1,q2,iw,lVar]
  ·by_cases h1:r12=1
   ·have hwt:JOk ns (js++[(w.2.1,w.1,-w.2.2)]):=hj.snoc (hj1.other w hw) (hj1.one w hw) (by have:=hj1.hi w hw;omega) (by have:=hj1.lo w hw;omega)
    refine⟨(w.2.1,w.1,-w.2.2),kf,_,some (.int w.2.2),some (.str w.1),some (.str w.2.1),hwt,s6.up (by omega),?_⟩
    have sl:=JaW js (x,y,z) (w.2.1,w.1,-w.2.2)
    have jw:jt w=.tup [.str w.1,.str w.2.1,.int w.2.2]:=rfl
    have jw2:jt (w.2.1,w.1,-w.2.2)=.tup [.str w.2.1,.str w.1,.int (-w.2.2)]:=rfl
    rw[jw]at gw
    have bz:-18446744073709551616 < w.2.2∧w.2.2 < 18446744073709551616:=by have:=hj1.hi w hw;have:=hj1.lo w hw;omega
    generalize st ke (t4+1)=A at *
    generalize st kf (t4+1+1)=A1 at *
    generalize hM1:js.map jt++[jt (x,y,z)]=M1 at *
    generalize hM2:js.map jt++[jt (w.2.1,w.1,-w.2.2)]=M2 at *
    rw[jw2]at sl
    unfold JBM;simp[h1,lm,e6,gw,sl,q1,q2,lVar,bz]
   ·refine⟨(x,y,z),ke,_,some (.int z),o11,o12,hj1,s5.up (by omega),?_⟩
    unfold JBM;simp[h0,h1]
 refine⟨js++[q],kf,t6,p7,some (.int r12),some (.int rk),some (.int rj),p11,p12,?_,hjq,by simp,s6⟩
 have hq:JB (st kf t6) ns sp (js++[q]) o6 p7 (some (.int r12)) (some (.int rk)) (some (.int rj)) p11 p12=JBM (st kf t6) ns sp (js.map jt++[jt q]) o6 p7 (some (.int r12)) (some (.int rk)) (some (.int rj)) p11 p12:=by unfold JB JBM;simp
 rw[hq]
 have q0:=JS c t
 have q1:=JS ka (t+1)
 have q2:=JQ ka (t+1)
 have q3:=JQ kb (t+1+1)
 have q4:=JS kd t4
 have q5:=JQ ke (t4+1)
 unfold Yu
 generalize st c t=A at *
 generalize st ka (t+1)=A1 at *
 generalize st kb (t+1+1)=A2 at *
 generalize st kd t4=A4 at *
 generalize st ke (t4+1)=A5 at *
 refine Jh (env1:=JB A2 ns sp js o6 o7 o8 (some (.int rk)) (some (.int rj)) o11 o12) ?_ ?_
 ·unfold JB;simp[e1,e2,q0,q1,q2,q3]
 refine Jh (env1:=JB A2 ns sp js o6 (some (.int (v - u))) o8 (some (.int rk)) (some (.int rj)) o11 o12) ?_ ?_
 ·unfold JB;simp[gu,gv]
 refine Jh e4 ?_
 refine Jh (env1:=JBM A4 ns sp (js.map jt++[jt (x,y,z)]) o6 (some (.int z)) o8 (some (.int rk)) (some (.int rj)) o11 o12) ?_ ?_
 ·have em:jt (x,y,z)=.tup [.str x,.str y,.int z]:=rfl
  unfold JB JBM;rw[em];simp[gx,gy,hz,lVar]
 refine Jh (env1:=JBM A5 ns sp (js.map jt++[jt (x,y,z)]) o6 (some (.int z)) (some (.int r12)) (some (.int rk)) (some (.int rj)) o11 o12) ?_ e6
 unfold JBM;simp[e5,q4,q5]
end
end VS
namespace VS
open PySem L2 SeqAt
def SPE (S:D) (ns:List Str) (o2:Option D) (o3:Option D) (o4:Option D):Env:=[some S,some (.lst .l (ns.map D.str)),o2,o3,o4,none,none,none,none,none,none,none,none]
theorem lc_one {vs:List Nat} {g:D→Env→Option Env} {ce:CE} {d:D} {ds:List D} {env env1 env2:Env} {y:D} {r:List D × Env} (h1:g d env=some env1) (h2:env1.length=env.length) (h3:ce env1=.ok y env2) (h4:YT vs g cYes ce ds (YB env2 vs)=some r):YT vs g cYes ce (d::ds) env=some (y::r.1,r.2):=by
 unfold YT;simp[h1,h2,h3,h4]
theorem JbT (ns:List Str):∀(ws:List Str) {B:Int} {c:List Int} {t:Int},StO B c t→B+ws.length≤900000→∃(sp:List Int) (c':List Int) (t':Int),YT [3] (gSet 3) cYes (c2 pSub (Jo Jb (aOw (cMv 0) (some 0) (aRo (cK (.int 19)) aNil))) (cK (.int 9))) (ws.map D.str) (SPE (st c t) ns none none none)=some (sp.map D.int,SPE (st c' t') ns none none none)∧sp.length=ws.length∧(∀x∈sp,-9≤x∧x≤9)∧StO (B+ws.length) c' t'
 | [],B,c,t,h,_=>⟨[],c,t,rfl,rfl,(fun _ z=>nomatch z),by simpa using h⟩
 | w::ws,B,c,t,h,hB=>by
  simp only[List.length_cons,Int.natCast_add]at hB
  obtain⟨r,c1,e1,p0,p1,s1⟩:=JZ h (by omega) (m:=19) (by decide) (by decide)
  obtain⟨sp,c',t',e2,l2,b2,s2⟩:=JbT ns ws s1 (by omega)
  have q1:=JS c t
  have q2:=JQ c1 (t+1)
  refine⟨(r - 9)::sp,c',t',?_,by simp[l2],fun x hx=>?_,by simpa [Int.add_assoc,Int.add_comm 1] using s2⟩
  ·rw[List.map_cons]
   generalize st c t=A at *
   generalize st c1 (t+1)=A1 at *
   have hc:(c2 pSub (Jo Jb (aOw (cMv 0) (some 0) (aRo (cK (.int 19)) aNil))) (cK (.int 9))) (SPE A ns none (some (.str w)) none)=.ok (.int (r - 9)) (SPE A1 ns none (some (.str w)) none):=by
    unfold SPE;simp[e1,q1,q2]
   exact lc_one rfl rfl hc e2
  ·rcases List.mem_cons.mp hx with z | z
   ·subst z;omega
   ·exact b2 x z
theorem v_joinings {B:Int} {c:List Int} {t:Int} (h:StO B c t) (hB:B≤800000) {ns:List Str} (hn:ns.length≤16):∃js c' t',JV [st c t,.lst .l (ns.map D.str)]=.ok (.lst .m (js.map jt)) [st c' t']∧JOk ns js∧js.length≤32∧StO (B+300) c' t':=by
 obtain⟨sp,c1,t1,e1,l1,b1,s1⟩:=JbT ns ns h (by omega)
 obtain⟨r6,c2',e6,p6,q6,s2⟩:=JZ s1 (by omega) (m:=6) (by decide) (by decide)
 obtain⟨sp2,l2,b2,e2⟩:∃sp2:List Int,sp2.length=ns.length∧(∀x∈sp2,-450000000189≤x∧x≤450000000189)∧(sIf (cTt (c2 pEq (Jo Jb (aOw (cMv 0) (some 0) (aRo (cK (.int 6)) aNil))) (cK (.int 0)))) (sAsg (cLc (Ur (cVar 2)) [4] (gSet 4) cYes (c2 Ug (cVar 4) (cK (.int 50000000021)))) (gSet 2)) sNil) (SPE (st c1 t1) ns (some (.lst .m (sp.map D.int))) none none)=.nx (SPE (st c2' (t1+1)) ns (some (.lst .m (sp2.map D.int))) none none):=by
  have q1:=JS c1 t1
  have q2:=JQ c2' (t1+1)
  generalize st c1 t1=A at *
  generalize st c2' (t1+1)=A1 at *
  by_cases h0:r6=0
  ·refine⟨sp.map fun x=>x * 50000000021,by simpa using l1,fun x hx=>?_,?_⟩
   ·obtain⟨y,hy,rfl⟩:=List.mem_map.mp hx
    have:=b1 y hy;omega
   ·have hc:=Jcs (f:=D.int) (vs:=[4]) (g:=gSet 4) (ce:=c2 Ug (cVar 4) (cK (.int 50000000021))) (env:=SPE A1 ns (some (.lst .m (sp.map D.int))) none none) (y:=fun x=>D.int (x * 50000000021)) (xs:=sp) (fun x hx=>⟨SPE A1 ns (some (.lst .m (sp.map D.int))) none (some (.int x)),rfl,rfl,by unfold SPE;simp,rfl⟩)
    have hz:sp.length≤sizeLine:=Ye (by omega)
    unfold SPE at *
    have hm:(sp.map fun x=>D.int (x * 50000000021))=(sp.map fun x=>x * 50000000021).map D.int:=by simp
    rw[hm]at hc
    simp[h0,e6,q1,q2,hc,hz]
  ·refine⟨sp,l1,fun x hx=>?_,?_⟩
   ·have:=b1 x hx;omega
   ·unfold SPE;simp[h0,e6,q1,q2]
 obtain⟨rr,c3,e3,p3,q3,s3⟩:=JZ s2 (by omega) (m:=2 * ns.length+1) (by omega) (by omega)
 have hloop:=UY (f:=fun i:Nat=>D.int (i:Nat)) (g:=gSet 6) (body:=Yu)
  (fun rest env=>∃js c t o6 o7 o8 o9 o10 o11 o12,env=JB (st c t) ns sp2 js o6 o7 o8 o9 o10 o11 o12∧JOk ns js∧js.length+rest.length=rr.toNat∧StO (B+20+7 * js.length) c t)
  (fun x xs env ⟨js,c,t,o6,o7,o8,o9,o10,o11,o12,e,hj,hl,hs⟩=>by
   simp only[List.length_cons]at hl
   obtain⟨js',c',t',p7,p8,p9,p10,p11,p12,f1,f2,f3,f4⟩:=v_join_step hs (by omega) (by omega) (by omega) l2 b2 hj (by omega) (some (.int (x:Nat))) o7 o8 o9 o10 o11 o12
   refine⟨_,_,(by rw[e];rfl),f1,js',c',t',_,_,_,_,_,_,_,rfl,f2,by omega,f4.up (by omega)⟩)
  (List.range rr.toNat) (JB (st c3 (t1+1+1)) ns sp2 [] none none none none none none none) ⟨[],_,_,_,_,_,_,_,_,_,rfl,⟨fun _ z=>(nomatch z),fun _ z=>(nomatch z),fun _ z=>(nomatch z),fun _ z=>(nomatch z)⟩,by simp,s3.up (by simp;omega)⟩
 obtain⟨env3,f1,js,c5,t5,o6,o7,o8,o9,o10,o11,o12,rfl,hj,hl,hs⟩:=hloop
 simp at hl
 refine⟨js,c5,t5,?_,hj,by omega,hs.up (by omega)⟩
 have hr:=Jcy rr (by omega) (by omega)
 have hz:ns.length≤sizeLine:=Ye (by omega)
 have q0:=JS c t
 have q1:=JQ c1 t1
 have q3:=JS c2' (t1+1)
 have q4:=JQ c3 (t1+1+1)
 have q5:=JQ c5 t5
 refine UN (env0:=SPE (st c t) ns none none none) (env:=(JB (st c5 t5) ns sp2 js o6 o7 o8 o9 o10 o11 o12).set 5 none) ⟨rfl,by decide⟩ rfl ?_ (by rfl)
 unfold Zd
 generalize st c t=A at *
 generalize st c1 t1=A1 at *
 generalize st c2' (t1+1)=A2 at *
 generalize st c3 (t1+1+1)=A3 at *
 generalize st c5 t5=A5 at *
 refine Jh (env1:=SPE A1 ns (some (.lst .m (sp.map D.int))) none none) ?_ ?_
 ·unfold SPE at *;simp[e1,hz,q1]
 refine Jh e2 ?_
 refine Jh (env1:=JB A2 ns sp2 [] none none none none none none none) ?_ ?_
 ·unfold SPE JB;simp
 refine Jh (env1:=JB A5 ns sp2 js o6 o7 o8 o9 o10 o11 o12) ?_ ?_
 ·unfold JB at *
  simp only[List.map_nil]at f1
  simp[e3,hr,f1,q3,q4]
 ·unfold JB;simp
end VS
namespace VS
open PySem L2 SeqAt
theorem Uo:∀{l m:List Str},l.Nodup→(∀x∈l,x∈m)→l.length≤m.length
 | [],m,_,_=>Nat.zero_le _
 | x::l,m,nd,h=>by
  have hx:=h x (by simp)
  have ih:=Uo (l:=l) (m:=m.erase x) (List.nodup_cons.mp nd).2 (fun y hy=>(List.mem_erase_of_ne (fun e=>(List.nodup_cons.mp nd).1 (by subst e;exact hy))).mpr (h y (by simp[hy])))
  rw[List.length_erase_of_mem hx]at ih
  have:=List.length_pos_of_mem hx
  simp only[List.length_cons];omega
theorem putP_fd {fs:List Str} {g:Str→D} {n:Str} {x:D} (nd:fs.Nodup):∃fs':List Str,putP (fs.map Sum.inr,fs.map g) (Sum.inr n) x=(fs'.map Sum.inr,fs'.map (up1 g n x))∧fs'.Nodup∧∀m,m∈fs'↔m∈fs∨m=n:=by
 unfold putP
 simp only
 rw[QV Sum.inr Jaa]
 by_cases h:n∈fs
 ·rw[if_pos h]
  exact⟨fs,by simp only[Jak fs g n x nd h],nd,fun m=>⟨.inl,fun z=>z.elim id fun e=>e ▸ h⟩⟩
 ·rw[if_neg h]
  have e:fs.map (up1 g n x)=fs.map g:=List.map_congr_left fun y hy=>by
   have:y≠n:=fun z=>h (z ▸ hy)
   simp[up1,this]
  refine⟨fs++[n],by simp only[List.map_append,List.map_cons,List.map_nil,e];simp[up1],?_,by simp⟩
  rw[List.nodup_append]
  exact⟨nd,by simp,fun a ha b hb=>by simp at hb;subst hb;exact fun e=>h (e ▸ ha)⟩
theorem Qr (d:D):∀(ns:List Str) (fs:List Str) (g:Str→D),fs.Nodup→∃fs':List Str,(ns.map fun n=>((Sum.inr n:Key),d)).foldl (fun acc p=>putP acc p.1 p.2) (fs.map Sum.inr,fs.map g)=(fs'.map Sum.inr,fs'.map fun n=>if n∈ns then d else g n)∧fs'.Nodup∧∀m,m∈fs'↔m∈fs∨m∈ns
 | [],fs,g,nd=>⟨fs,by simp,nd,by simp⟩
 | n::ns,fs,g,nd=>by
  obtain⟨f1,e1,nd1,h1⟩:=putP_fd (g:=g) (n:=n) (x:=d) nd
  obtain⟨f2,e2,nd2,h2⟩:=Qr d ns f1 (up1 g n d) nd1
  refine⟨f2,?_,nd2,fun m=>by rw[h2,h1,List.mem_cons,or_assoc]⟩
  rw[List.map_cons,List.foldl_cons]
  simp only
  rw[e1,e2]
  congr 1
  refine List.map_congr_left fun m hm=>?_
  by_cases z:m∈ns
  ·simp[z]
  ·by_cases y:m=n
   ·simp[z,y,up1]
   ·simp[z,y,up1]
def MD (fs:List Str) (f:Str→Str):D:=.dct .m (fs.map Sum.inr) (fs.map fun n=>.str (f n))
structure MOk (ns fs:List Str) (f:Str→Str):Prop where
 nd:fs.Nodup
 sub:∀n∈fs,n∈ns
 out:∀n,n∉fs→f n=n
 val:∀n,f n∈fs∨f n=n
def fnx (f:Str→Str) (m w:Str):Str→Str:=fun n=>if f n=w then m else f n
theorem MOk.get {ns fs:List Str} {f:Str→Str} (h:MOk ns fs f) (n:Str):(Yb (fs.map Sum.inr) (fs.map fun n=>D.str (f n)) (Sum.inr n)).getD (.str n)=.str (f n):=by
 rw[Jbt]
 by_cases z:n∈fs
 ·simp[z]
 ·simp[z,h.out n z]
theorem Jaj (m:Str):∀ns:List Str,Zl (ns.map fun n=>D.tup [.str n,.str m])=some (ns.map fun n=>((Sum.inr n:Key),D.str m))
 | []=>rfl
 | n::ns=>by simp[Zl,D.key,Jaj m ns]
theorem Ja8 (m:Str):∀ns:List Str,imms (ns.map fun n=>D.tup [.str n,.str m])=true
 | []=>rfl
 | n::ns=>by simp[Ja8 m ns]
theorem JcE (f:Str→Str):∀ns:List Str,imms (ns.map fun n=>D.str (f n))=true
 | []=>rfl
 | n::ns=>by simp[JcE f ns]
theorem upd_marks {ns fs:List Str} {f:Str→Str} (h:MOk ns fs f) (hl:ns.length≤100) {x y:Str} (hx:x∈ns) (hy:y∈ns) (hne:f x≠f y) :
  ∃d1 fs',QF (MD fs f) [.lst .m ((fs.filter fun n=>decide (f n=f y)).map fun n=>.tup [.str n,.str (f x)])]=some (d1,.non)∧(∃k1 v1,d1=.dct .m k1 v1) ∧
   QR d1 [.dct .m [Sum.inr x,Sum.inr y] [.str (f x),.str (f x)]]=some (MD fs' (fnx f (f x) (f y)),.non)∧MOk ns fs' (fnx f (f x) (f y)):=by
 obtain⟨f1,e1,nd1,h1⟩:=Qr (.str (f x)) (fs.filter fun n=>decide (f n=f y)) fs (fun n=>.str (f n)) h.nd
 obtain⟨f2,e2,nd2,h2⟩:=Qr (.str (f x)) [x,y] f1 (fun n=>if n∈fs.filter (fun n=>decide (f n=f y)) then .str (f x) else .str (f n)) nd1
 have hf1:∀m,m∈f1↔m∈fs:=fun m=>by
  rw[h1]
  constructor
  ·rintro (z | z)
   ·exact z
   ·exact(List.mem_filter.mp z).1
  ·exact .inl
 have l0:fs.length≤100:=by have:=Uo h.nd h.sub;omega
 have lf:(fs.filter fun n=>decide (f n=f y)).length≤100:=by have:=List.length_filter_le (fun n=>decide (f n=f y)) fs;omega
 have l1:f1.length≤100:=by have:=Uo nd1 (fun m hm=>h.sub m ((hf1 m).mp hm));omega
 have hz:∀k:Nat,k≤200→k≤sizeLine:=fun k hk=>Ye (by omega)
 have hxy:x≠y:=fun z=>hne (by rw[z])
 refine⟨.dct .m (f1.map Sum.inr) (f1.map fun n=>if n∈fs.filter (fun n=>decide (f n=f y)) then .str (f x) else .str (f n)),f2,?_,⟨_,_,rfl⟩,?_,?_⟩
 ·unfold QF MD
  simp only[JcE,Ja8,Jaj,Option.map_some,e1,List.length_map]
  rw[if_pos (by simp;exact hz _ (by omega))]
 ·have im:imms (f1.map fun n=>if n∈fs.filter (fun n=>decide (f n=f y)) then D.str (f x) else .str (f n))=true:=by
   rw[ZS,List.all_eq_true]
   intro d hd
   obtain⟨n,_,rfl⟩:=List.mem_map.mp hd
   split<;>rfl
  have ez:([Sum.inr x,Sum.inr y]:List Key).zip [D.str (f x),.str (f x)]=[x,y].map fun n=>((Sum.inr n:Key),D.str (f x)):=rfl
  have ev:(f2.map fun n=>if n∈[x,y] then D.str (f x) else if n∈fs.filter (fun n=>decide (f n=f y)) then .str (f x) else .str (f n))=f2.map fun n=>D.str (fnx f (f x) (f y) n):=by
   refine List.map_congr_left fun n hn=>?_
   unfold fnx
   by_cases z:n∈[x,y]
   ·rw[if_pos z]
    have:n=x∨n=y:=by simpa using z
    rcases this with rfl | rfl
    ·rw[if_neg hne]
    ·rw[if_pos rfl]
   ·rw[if_neg z]
    have hfs:n∈fs:=by
     rcases (h2 n).mp hn with q | q
     ·exact(hf1 n).mp q
     ·exact absurd q z
    by_cases w:f n=f y
    ·rw[if_pos (List.mem_filter.mpr ⟨hfs,by simp[w]⟩),if_pos w]
    ·rw[if_neg (fun q=>w (by simpa using (List.mem_filter.mp q).2)),if_neg w]
  unfold QR MD
  simp only[im,ez,e2,ev]
  rw[if_pos (by simp;exact hz _ (by omega))]
 ·have hm2:∀m,m∈f2↔m∈fs∨m=x∨m=y:=fun m=>by rw[h2,hf1];simp
  refine⟨nd2,fun n hn=>?_,fun n hn=>?_,fun n=>?_⟩
  ·rcases (hm2 n).mp hn with z | rfl | rfl
   ·exact h.sub n z
   ·exact hx
   ·exact hy
  ·have nn:n∉fs∧n≠x∧n≠y:=by
    have:=fun z=>hn ((hm2 n).mpr z)
    exact⟨fun z=>this (.inl z),fun z=>this (.inr (.inl z)),fun z=>this (.inr (.inr z))⟩
   have e:=h.out n nn.1
   unfold fnx
   rw[if_neg,e]
   intro z
   rw[e]at z
   rcases h.val y with q | q
   ·rw[←z]at q;exact nn.1 q
   ·rw[q]at z;exact nn.2.2 z
  ·unfold fnx
   by_cases w:f n=f y
   ·rw[if_pos w]
    left
    rw[hm2]
    rcases h.val x with q | q
    ·exact .inl q
    ·exact .inr (.inl q)
   ·rw[if_neg w]
    rcases h.val n with q | q
    ·exact .inl ((hm2 _).mpr (.inl q))
    ·exact .inr q
def MC (L:List J) (f:Str→Str):Prop:=∀a b,f a=f b↔Conn L a b
theorem MC.same {L:List J} {f:Str→Str} (h:MC L f) {x y:Str} {z:Int} (e:f x=f y):MC (L++[(x,y,z)]) f:=fun a b=>by
 rw[Qq,h]
 have c:=(h x y).mp e
 constructor
 ·exact .inl
 ·rintro (q | ⟨q1,q2⟩ | ⟨q1,q2⟩)
  ·exact q
  ·exact q1.trans (c.trans q2)
  ·exact q1.trans (c.symm.trans q2)
theorem MC.step {L:List J} {f:Str→Str} (h:MC L f) {x y:Str} {z:Int}:MC (L++[(x,y,z)]) (fnx f (f x) (f y)):=fun a b=>by
 rw[Qq,←h,←h,←h,←h,←h]
 unfold fnx
 by_cases p:f a=f y<;>by_cases q:f b=f y<;>simp only[p,q,if_true,if_false]
 ·simp
 ·constructor
  ·intro e;exact .inr (.inr ⟨trivial,e⟩)
  ·rintro (e | ⟨e1,e2⟩ | ⟨_,e⟩)
   ·exact absurd e.symm q
   ·exact absurd e2.symm q
   ·exact e
 ·constructor
  ·intro e;exact .inr (.inl ⟨e,trivial⟩)
  ·rintro (e | ⟨e,_⟩ | ⟨e,_⟩)
   ·exact e.elim
   ·exact e
   ·exact e.elim
 ·constructor
  ·exact .inl
  ·rintro (e | ⟨_,e⟩ | ⟨e,_⟩)
   ·exact e
   ·exact absurd e.symm q
   ·exact e.elim
end VS
namespace VS
open PySem L2 SeqAt
def nI (i:Nat):D:=.int (i:Nat)
def HE (d0 d1:D) (held:List Nat) (o3 o4 o5 o6 o7 o8 o9:Option D):Env:=[some d0,some d1,some (.lst .m (held.map nI)),o3,o4,o5,o6,o7,o8,o9]
theorem Jay (f:Str→Str):∀ns:List Str,lends (ns.map fun n=>D.str (f n))=ns.map fun n=>D.str (f n)
 | []=>rfl
 | n::ns=>by simp[Jay f ns]
theorem Ja3 (m:Str):∀ns:List Str,nols (ns.map fun n=>D.tup [.str n,.str m])=true
 | []=>rfl
 | n::ns=>by rw[List.map_cons];show (D.nol _ && nols _)=true;rw[Ja3 m ns];rfl
theorem Ja4 (m:Str):∀ns:List Str,noks (ns.map fun n=>D.tup [.str n,.str m])=true
 | []=>rfl
 | n::ns=>by rw[List.map_cons];show (D.nok _ && noks _)=true;rw[Ja4 m ns];rfl
theorem Jbu:∀fs:List Str,(fs.map (Sum.inr:Str→Key)).map keyD=fs.map D.str
 | []=>rfl
 | n::ns=>by rw[List.map_cons,List.map_cons,Jbu ns];rfl
section
variable {ns fs:List Str} {f:Str→Str} {d0:D} {held:List Nat} {o3 o4 o5 o6:Option D}
theorem comp_marks (h:MOk ns fs f) (hl:ns.length≤100) (m w:Str):(Jas 1 [9,7] (JbM 1 none [9,7] (cLc (ZQ (cVar 1)) [9] (gSet 9) (cTt (c2 pEq (cIdx (cVar 1) (cVar 9)) (cVar 8))) (cTup (Jc (cGet 9) (Jc (cImm (cVar 7)) cNil)))))) (HE d0 (MD fs f) held o3 o4 o5 o6 (some (.str m)) (some (.str w)) none)
  = .ok (.lst .m ((fs.filter fun n=>decide (f n=w)).map fun n=>.tup [.str n,.str m])) (HE d0 (MD fs f) held o3 o4 o5 o6 (some (.str m)) (some (.str w)) none):=by
 have l0:fs.length≤100:=by have:=Uo h.nd h.sub;omega
 have hz:fs.length≤sizeLine:=Ye (by omega)
 have hc:=Jbf (f:=D.str) (vs:=[9]) (g:=gSet 9) (ct:=cTt (c2 pEq (cIdx (cVar 1) (cVar 9)) (cVar 8))) (ce:=cTup (Jc (cGet 9) (Jc (cImm (cVar 7)) cNil)))
  (env:=HE d0 (.dct .k (fs.map Sum.inr) (fs.map fun n=>.str (f n))) held o3 o4 o5 o6 (some (.str m)) (some (.str w)) none) (y:=fun n=>D.tup [.str n,.str m]) (t:=fun n=>decide (f n=w)) (xs:=fs)
  (fun n hn=>⟨HE d0 (.dct .k (fs.map Sum.inr) (fs.map fun n=>.str (f n))) held o3 o4 o5 o6 (some (.str m)) (some (.str w)) (some (.str n)),rfl,rfl,by unfold HE;simp[hn];rw[Bool.eq_iff_iff];simp,fun _=>by unfold HE;simp,rfl⟩)
 have e0:=Jbu fs
 have e1:=Jay f fs
 have e2:=Ja3 m (fs.filter fun n=>decide (f n=w))
 have e3:=Ja4 m (fs.filter fun n=>decide (f n=w))
 unfold HE at hc
 unfold HE MD
 generalize hV:(fs.map fun n=>D.str (f n))=V at *
 generalize hR:((fs.filter fun n=>decide (f n=w)).map fun n=>D.tup [.str n,.str m])=R at *
 have q1:(D.lst .m R).nol=true:=by show ((Fl.m == Fl.m || Fl.m == Fl.f) && nols R)=true;rw[e2];rfl
 have q2:(D.lst .m R).nok=true:=by show ((Fl.m != Fl.k) && noks R)=true;rw[e3];rfl
 have hin:cLc (ZQ (cVar 1)) [9] (gSet 9) (cTt (c2 pEq (cIdx (cVar 1) (cVar 9)) (cVar 8))) (cTup (Jc (cGet 9) (Jc (cImm (cVar 7)) cNil))) [some d0,some (.dct .k (fs.map Sum.inr) V),some (.lst .m (held.map nI)),o3,o4,o5,o6,some (.str m),some (.str w),none]=.ok (.lst .m R) [some d0,some (.dct .k (fs.map Sum.inr) V),some (.lst .m (held.map nI)),o3,o4,o5,o6,some (.str m),some (.str w),none]:=by
  simp[hc,e0,hz]
 generalize cLc (ZQ (cVar 1)) _ _ _ _=CC at hin ⊢
 have q3:(D.str m).nok=true:=by unfold D.nok;rfl
 unfold Jas
 simp[e1,q3,JaM,hin,Um,Zn,q1,q2,okK,okN]
 all_goals first | rfl | skip
theorem Jcr (h:MOk ns fs f) (n:Str):Qe (MD fs f) (.str n) (.str n)=some (.str (f n)):=by
 unfold MD
 simp only[JcZ]
 rw[show (D.str n).key=some (Sum.inr n) from rfl,Option.map_some,h.get]
theorem v_lh_step (h:MOk ns fs f) (hl:ns.length≤100) {x y:Str} {z:Int} (hx:x∈ns) (hy:y∈ns) (hh:held.length≤1000) (i:Nat) (o7 o8:Option D) :
  ∃fs',Yh (HE d0 (MD fs f) held (some (nI i)) (some (.str x)) (some (.str y)) (some (.int z)) o7 o8 none)=.nx (HE d0 (MD fs' (if f x=f y then f else fnx f (f x) (f y))) (if f x=f y then held else held++[i]) (some (nI i)) (some (.str x)) (some (.str y)) (some (.int z)) (some (.str (f x))) (some (.str (f y))) none)∧MOk ns fs' (if f x=f y then f else fnx f (f x) (f y)):=by
 have g1:=Jcr h x
 have g2:=Jcr h y
 have hd:QH (MD fs f)=true:=rfl
 by_cases e:f x=f y
 ·refine⟨fs,?_,by rw[if_pos e];exact h⟩
  rw[if_pos e,if_pos e]
  unfold Yh
  rw[e]at g1
  generalize MD fs f=A at *
  unfold HE;simp[g1,g2,hd,e]
 ·obtain⟨d1,fs',u1,⟨k1,v1,hd1⟩,u2,ok⟩:=upd_marks h hl hx hy e
  refine⟨fs',?_,by rw[if_neg e];exact ok⟩
  rw[if_neg e,if_neg e]
  have cm:=comp_marks (d0:=d0) (held:=held++[i]) (o3:=some (nI i)) (o4:=some (.str x)) (o5:=some (.str y)) (o6:=some (.int z)) h hl (f x) (f y)
  have hz:held.length < sizeLine:=ZG (by omega)
  have hxy:x≠y:=fun z=>e (by rw[z])
  have kd0:kdM (MD fs f)=true:=rfl
  unfold Yh
  generalize Jas _ _ _=CC at cm ⊢
  generalize hm:MD fs' (fnx f (f x) (f y))=A2 at *
  generalize MD fs f=A at *
  generalize fnx f (f x) (f y)=ff at *
  refine Jh (env1:=HE d0 A held (some (nI i)) (some (.str x)) (some (.str y)) (some (.int z)) (some (.str (f x))) (some (.str (f y))) none) (by unfold HE;simp[g1,g2,hd]) ?_
  have ht:∀env',(sSeq (YN (cMut 2 kdL Yk (lVar 2) (Jc (cGet 3) cNil))) (sSeq (YN (Jab 1 kdM QF (Jc CC cNil))) (YN (cMut 1 kdM QR (lVar 1) (Jc (QE (((cVar 4),(cImm (cVar 7)))::(((cVar 5),(cImm (cVar 7)))::[]))) cNil))))) (HE d0 A held (some (nI i)) (some (.str x)) (some (.str y)) (some (.int z)) (some (.str (f x))) (some (.str (f y))) none)=.nx env' →
   (sIf (cTt (c2 pNe (cVar 7) (cVar 8))) (sSeq (YN (cMut 2 kdL Yk (lVar 2) (Jc (cGet 3) cNil))) (sSeq (YN (Jab 1 kdM QF (Jc CC cNil))) (YN (cMut 1 kdM QR (lVar 1) (Jc (QE (((cVar 4),(cImm (cVar 7)))::(((cVar 5),(cImm (cVar 7)))::[]))) cNil))))) sNil) (HE d0 A held (some (nI i)) (some (.str x)) (some (.str y)) (some (.int z)) (some (.str (f x))) (some (.str (f y))) none)=.nx env':=by
   intro env' q
   generalize (sSeq (YN (cMut 2 kdL Yk (lVar 2) (Jc (cGet 3) cNil))) _)=TT at q ⊢
   unfold HE at *
   simp[e,q]
  refine ht _ ?_
  refine Jh (env1:=HE d0 A (held++[i]) (some (nI i)) (some (.str x)) (some (.str y)) (some (.int z)) (some (.str (f x))) (some (.str (f y))) none) (by unfold HE;simp[hz,lVar,nI]) ?_
  refine Jh (env1:=HE d0 d1 (held++[i]) (some (nI i)) (some (.str x)) (some (.str y)) (some (.int z)) (some (.str (f x))) (some (.str (f y))) none) ?_ ?_
  ·unfold HE at *
   simp only[List.map_append,List.map_cons,List.map_nil]at cm
   simp[kd0,cm,u1]
  ·have kd1:kdM d1=true:=by rw[hd1];rfl
   unfold HE
   simp[kd1,lVar,D.key,hxy,u2]
end
noncomputable def hs (js:List Jn) (k:Nat):List Nat:=(List.range k).filter (hB js)
theorem QW (js:List Jn) (k:Nat):hs js (k+1)=hs js k++(if hB js k=true then [k] else []):=by
 unfold hs
 rw[List.range_succ,List.filter_append]
 congr 1
 simp[List.filter_cons]
theorem Jaz {ns:List Str} {js:List Jn} (hj:JOk ns js) (hl:ns.length≤100) (hjl:js.length≤1000):Ya [.lst .l (js.map jt)]=.ok (.lst .m ((hs js js.length).map nI)) []:=by
 have hnum:=Jbd jt 0 js
 have hloop:=UY (f:=fun p:Jn × Nat=>D.tup [.int (p.2:Nat),jt p.1]) (g:=Yt 2 (Ji (gSet 3) (Ji (Yt 3 (Ji (gSet 4) (Ji (gSet 5) (Ji (gSet 6) Yx)))) Yx))) (body:=Yh)
  (fun rest env=>∃k fs f o3 o4 o5 o6 o7 o8,rest=(js.drop k).zipIdx k∧k≤js.length∧env=HE (.lst .l (js.map jt)) (MD fs f) (hs js k) o3 o4 o5 o6 o7 o8 none∧MOk ns fs f∧MC (sel js allB k) f)
  (fun p rest env ⟨k,fs,f,o3,o4,o5,o6,o7,o8,e1,hk,e2,ok,mc⟩=>by
   have hk':k < js.length:=by
    refine Nat.lt_of_not_le fun z=>?_
    have:js.drop k=[]:=List.drop_eq_nil_of_le z
    rw[this]at e1;simp at e1
   have ed:js.drop k=js[k]::js.drop (k+1):=List.drop_eq_getElem_cons hk'
   rw[ed,List.zipIdx_cons]at e1
   obtain⟨rfl,rfl⟩:=List.cons.inj e1
   have eg:js[k]?=some js[k]:=List.getElem?_eq_getElem hk'
   have mem:js[k]∈js:=List.getElem_mem hk'
   generalize hjk:js[k]=j at *
   obtain⟨x,y,z⟩:=j
   have hhl:(hs js k).length≤1000:=by
    have:=List.length_filter_le (hB js) (List.range k)
    rw[List.length_range]at this
    show ((List.range k).filter (hB js)).length≤1000
    omega
   obtain⟨fs',g1,g2⟩:=v_lh_step (d0:=.lst .l (js.map jt)) (z:=z) ok hl (hj.one _ mem) (hj.other _ mem) hhl k o7 o8
   refine⟨HE (.lst .l (js.map jt)) (MD fs f) (hs js k) (some (nI k)) (some (.str x)) (some (.str y)) (some (.int z)) o7 o8 none,_,by rw[e2];rfl,g1,k+1,fs',(if f x=f y then f else fnx f (f x) (f y)),some (nI k),some (.str x),some (.str y),some (.int z),some (.str (f x)),some (.str (f y)),rfl,hk',?_,g2,?_⟩
   ·have hb:=Jc4 eg
    have:(if f x=f y then hs js k else hs js k++[k])=hs js (k+1):=by
     rw[QW]
     by_cases e:f x=f y
     ·have:¬ hB js k=true:=fun w=>(hb.mp w) ((mc x y).mp e)
      rw[if_pos e,if_neg this,List.append_nil]
     ·have:hB js k=true:=hb.mpr fun w=>e ((mc x y).mpr w)
      rw[if_neg e,if_pos this]
    rw[←this]
   ·have es:sel js allB (k+1)=sel js allB k++[(x,y,z)]:=by simp[sel,eg,allB]
    rw[es]
    by_cases e:f x=f y
    ·rw[if_pos e];exact mc.same e
    ·rw[if_neg e];exact mc.step)
  js.zipIdx (HE (.lst .l (js.map jt)) (MD [] id) [] none none none none none none none)
  ⟨0,[],id,none,none,none,none,none,none,by simp,Nat.zero_le _,rfl,⟨by simp,by simp,fun _ _=>rfl,fun _=>.inr rfl⟩,fun a b=>⟨fun h=>by cases h;exact .refl _,fun h=>by
   obtain⟨o,r⟩:=h
   show a=b
   induction r with
   | refl=>rfl
   | fwd _ m _=>cases m
   | bwd _ m _=>cases m⟩⟩
 obtain⟨env',f1,k,fs,f,o3,o4,o5,o6,o7,o8,e1,hk,rfl,ok,mc⟩:=hloop
 have hkl:k=js.length:=by
  have:=congrArg List.length e1
  simp at this;omega
 subst hkl
 refine UN (env0:=[some (.lst .l (js.map jt)),none,none,none,none,none,none,none,none,none]) (env:=(HE (.lst .l (js.map jt)) (MD fs f) (hs js js.length) o3 o4 o5 o6 o7 o8 none).set 2 none) ⟨rfl,by decide⟩ rfl ?_ (by rfl)
 unfold Zs
 refine Jh (env1:=[some (.lst .l (js.map jt)),some (MD [] id),none,none,none,none,none,none,none,none]) (by unfold MD;simp) ?_
 refine Jh (env1:=HE (.lst .l (js.map jt)) (MD [] id) [] none none none none none none none) (by unfold HE;simp) ?_
 refine Jh (env1:=HE (.lst .l (js.map jt)) (MD fs f) (hs js js.length) o3 o4 o5 o6 o7 o8 none) ?_ ?_
 ·generalize MD [] id=A0 at *
  generalize MD fs f=A1 at *
  generalize hs js js.length=HH at *
  unfold HE at *
  simp only[List.map_nil]at f1
  simp[hnum,f1]
 ·unfold HE;simp
end VS
namespace VS
open PySem L2 SeqAt
structure UF (ns fs:List Str) (f rt:Str→Str) (d:Str→Nat):Prop where
 nd:fs.Nodup
 sub:∀n∈fs,n∈ns
 out:∀n,n∉fs→f n=n∧rt n=n∧d n=0
 inn:∀n,n∈fs→f n≠n∧rt (f n)=rt n∧d n=d (f n)+1
 root:∀n,rt n∉fs
 dle:∀n,d n≤fs.length
theorem UF.get {ns fs:List Str} {f rt:Str→Str} {d:Str→Nat} (h:UF ns fs f rt d) (n:Str):(Yb (fs.map Sum.inr) (fs.map fun n=>D.str (f n)) (Sum.inr n)).getD (.str n)=.str (f n):=by
 rw[Jbt]
 by_cases z:n∈fs
 ·simp[z]
 ·simp[z,(h.out n z).1]
theorem UF.start (ns:List Str):UF ns [] id id fun _=>0:=⟨by simp,by simp,fun _ _=>⟨rfl,rfl,rfl⟩,by simp,by simp,by simp⟩
theorem UF.step {ns fs:List Str} {f rt:Str→Str} {d:Str→Nat} (h:UF ns fs f rt d) {x y:Str} (hy:y∈ns) (hval:∀n,rt n∈ns∨rt n=n) (hne:rt x≠rt y) :
  UF ns (fs++[rt y]) (fun n=>if n=rt y then rt x else f n) (fnx rt (rt x) (rt y)) (fun n=>if rt n=rt y then d n+1 else d n):=by
 have ry:=h.root y
 have rx:=h.root x
 have orx:=h.out _ rx
 have ory:=h.out _ ry
 refine⟨?_,fun n hn=>?_,fun n hn=>?_,fun n hn=>?_,fun n=>?_,fun n=>?_⟩
 ·rw[List.nodup_append]
  exact⟨h.nd,by simp,fun a ha b hb=>by simp at hb;subst hb;exact fun e=>ry (e ▸ ha)⟩
 ·rcases List.mem_append.mp hn with z | z
  ·exact h.sub n z
  ·have:n=rt y:=by simpa using z
   subst this
   rcases hval y with q | q
   ·exact q
   ·rw[q];exact hy
 ·have hn1:n∉fs∧n≠rt y:=by simpa using hn
  have o:=h.out n hn1.1
  have:¬ rt n=rt y:=by rw[o.2.1];exact hn1.2
  simp only[fnx,this,hn1.2,if_false]
  exact o
 ·by_cases z:n=rt y
  ·subst z
   have e1:rt (rt y)=rt y:=ory.2.1
   have e2:¬ rt (rt x)=rt y:=by rw[orx.2.1];exact hne
   simp only[fnx,if_true,e1,e2,if_false]
   exact⟨hne,orx.2.1,by rw[ory.2.2,orx.2.2]⟩
  ·have hf:n∈fs:=by
    rcases List.mem_append.mp hn with q | q
    ·exact q
    ·exact absurd (by simpa using q) z
   have i:=h.inn n hf
   simp only[fnx,z,if_false]
   by_cases w:rt n=rt y
   ·have w2:rt (f n)=rt y:=by rw[i.2.1];exact w
    simp only[w,w2,if_true]
    exact⟨i.1,trivial,by rw[i.2.2]⟩
   ·have w2:¬ rt (f n)=rt y:=by rw[i.2.1];exact w
    simp only[w,w2,if_false]
    exact i
 ·unfold fnx
  by_cases w:rt n=rt y
  ·rw[if_pos w]
   simp only[List.mem_append,List.mem_singleton,not_or]
   exact⟨rx,hne⟩
  ·rw[if_neg w]
   simp only[List.mem_append,List.mem_singleton,not_or]
   exact⟨h.root n,w⟩
 ·have:=h.dle n
  simp only[List.length_append,List.length_singleton]
  split<;>omega
theorem e_getUF {ns fs:List Str} {f rt:Str→Str} {d:Str→Nat} (h:UF ns fs f rt d) (n:Str):Qe (.dct .l (fs.map Sum.inr) (fs.map fun n=>.str (f n))) (.str n) (.str n)=some (.str (f n)):=by
 simp only[JcZ]
 rw[show (D.str n).key=some (Sum.inr n) from rfl,Option.map_some,h.get]
theorem Jc7 {ns fs:List Str} {f rt:Str→Str} {d:Str→Nat} (h:UF ns fs f rt d) (hl:ns.length≤100) (n:Str):YY [.dct .l (fs.map Sum.inr) (fs.map fun n=>.str (f n)),.str n]=.ok (.str (rt n)) []:=by
 have l0:fs.length≤100:=by have:=Uo h.nd h.sub;omega
 have hg:=e_getUF h
 have hk:∀m,m∈fs→ixD (.dct .l (fs.map Sum.inr) (fs.map fun n=>.str (f n))) (.str m)=some (.str (f m)):=fun m hm=>by
  simp[D.key,hm]
 have hd:QH (.dct .l (fs.map Sum.inr) (fs.map fun n=>D.str (f n)))=true:=rfl
 generalize D.dct .l (fs.map Sum.inr) (fs.map fun n=>D.str (f n))=A at *
 obtain⟨env',f1,f2⟩:=Jb9 (ct:=Uw) (body:=Zh) (P:=fun k env=>∃m,env=[some A,some (.str m)]∧rt m=rt n∧d m=k) (Q:=fun env=>env=[some A,some (.str (rt n))])
  (fun k env ⟨m,e1,e2,e3⟩=>by
   by_cases hm:m∈fs
   ·right
    have i:=h.inn m hm
    refine⟨d (f m),env,[some A,some (.str (f m))],by rw[←e3];exact i.2.2,?_,?_,f m,rfl,by rw[i.2.1,e2],rfl⟩
    ·rw[e1];unfold Uw;simp[hg,hd,i.1]
    ·rw[e1];unfold Zh;simp[hk m hm]
   ·left
    have o:=h.out m hm
    refine⟨env,?_,?_⟩
    ·rw[e1];unfold Uw;simp[hg,hd,o.1]
    ·rw[e1,←e2,o.2.1]) (d n) 100000 [some A,some (.str n)] (by have:=h.dle n;omega) ⟨n,rfl,rfl,rfl⟩
 subst f2
 refine UN (env0:=[some A,some (.str n)]) (env:=[some A,some (.str (rt n))]) ⟨rfl,by decide⟩ rfl ?_ (by rfl)
 unfold Jbb
 refine Jh (env1:=[some A,some (.str (rt n))]) (by simpa using f1) ?_
 simp
def HE2 (d0 d1:D) (held:List Nat) (o3 o4 o5 o6 o7 o8:Option D):Env:=[some d0,some d1,some (.lst .m (held.map nI)),o3,o4,o5,o6,o7,o8]
theorem v_ho_step {ns fs:List Str} {f rt:Str→Str} {d:Str→Nat} {d0:D} {held:List Nat} (h:UF ns fs f rt d) (hl:ns.length≤100) {x y:Str} {z:Int} (hy:y∈ns) (hval:∀n,rt n∈ns∨rt n=n) (hh:held.length≤1000) (i:Nat) (o7 o8:Option D) :
  ∃fs' f' d',Yz (HE2 d0 (MD fs f) held (some (nI i)) (some (.str x)) (some (.str y)) (some (.int z)) o7 o8)=.nx (HE2 d0 (MD fs' f') (if rt x=rt y then held else held++[i]) (some (nI i)) (some (.str x)) (some (.str y)) (some (.int z)) (some (.str (rt x))) (some (.str (rt y))))∧UF ns fs' f' (if rt x=rt y then rt else fnx rt (rt x) (rt y)) d':=by
 have l0:fs.length≤100:=by have:=Uo h.nd h.sub;omega
 have hz:held.length < sizeLine:=ZG (by omega)
 have hz2:fs.length < sizeLine:=ZG (by omega)
 have h1:=Jc7 h hl x
 have h2:=Jc7 h hl y
 have e0:=Jay f fs
 by_cases e:rt x=rt y
 ·refine⟨fs,f,d,?_,by rw[if_pos e];exact h⟩
  rw[if_pos e]
  unfold Yz
  refine Jh (env1:=HE2 d0 (MD fs f) held (some (nI i)) (some (.str x)) (some (.str y)) (some (.int z)) (some (.str (rt x))) (some (.str (rt y)))) ?_ ?_
  ·unfold HE2 MD;simp[h1,h2,e0]
  ·unfold HE2;simp[e]
 ·refine⟨fs++[rt y],_,_,?_,by rw[if_neg e];exact h.step hy hval e⟩
  rw[if_neg e]
  have hst:stD (MD fs f) (.str (rt y)) (.str (rt x))=some (MD (fs++[rt y]) fun n=>if n=rt y then rt x else f n):=by
   show ((D.str (rt y)).key.bind fun k=>if (fs.map (Sum.inr:Str→Key)).length < sizeLine then some (putD (fs.map Sum.inr) (fs.map fun n=>D.str (f n)) k (.str (rt x))) else none)=_
   unfold MD
   rw[show (D.str (rt y)).key=some (Sum.inr (rt y)) from rfl,Option.bind_some,if_pos (by simpa using hz2)]
   unfold putD
   rw[QV Sum.inr Jaa,if_neg (h.root y)]
   have ev:(fs.map fun n=>D.str (if n=rt y then rt x else f n))=fs.map fun n=>D.str (f n):=List.map_congr_left fun n hn=>by
    have:n≠rt y:=fun z=>h.root y (z ▸ hn)
    rw[if_neg this]
   simp only[List.map_append,ev]
   simp
  unfold Yz
  refine Jh (env1:=HE2 d0 (MD fs f) held (some (nI i)) (some (.str x)) (some (.str y)) (some (.int z)) (some (.str (rt x))) (some (.str (rt y)))) ?_ ?_
  ·unfold HE2 MD;simp[h1,h2,e0]
  ·generalize (MD (fs++[rt y]) fun n=>if n=rt y then rt x else f n)=A2 at *
   generalize MD fs f=A at *
   unfold HE2;simp[e,hst,lVar,hz,nI]
theorem v_held {ns:List Str} {js:List Jn} {d0:D} (hd:Hold jt js d0) (hj:JOk ns js) (hl:ns.length≤100) (hjl:js.length≤1000):YH [d0]=.ok (.lst .m ((hs js js.length).map nI)) []:=by
 have hnum:=Jbd jt 0 js
 have hloop:=UY (f:=fun p:Jn × Nat=>D.tup [.int (p.2:Nat),jt p.1]) (g:=Yt 2 (Ji (gSet 3) (Ji (Yt 3 (Ji (gSet 4) (Ji (gSet 5) (Ji (gSet 6) Yx)))) Yx))) (body:=Yz)
  (fun rest env=>∃k fs f rt d o3 o4 o5 o6 o7 o8,rest=(js.drop k).zipIdx k∧k≤js.length∧env=HE2 d0 (MD fs f) (hs js k) o3 o4 o5 o6 o7 o8∧UF ns fs f rt d∧(∀n,rt n∈ns∨rt n=n)∧MC (sel js allB k) rt)
  (fun p rest env ⟨k,fs,f,rt,d,o3,o4,o5,o6,o7,o8,e1,hk,e2,ok,hv,mc⟩=>by
   have hk':k < js.length:=by
    refine Nat.lt_of_not_le fun z=>?_
    have:js.drop k=[]:=List.drop_eq_nil_of_le z
    rw[this]at e1;simp at e1
   have ed:js.drop k=js[k]::js.drop (k+1):=List.drop_eq_getElem_cons hk'
   rw[ed,List.zipIdx_cons]at e1
   obtain⟨rfl,rfl⟩:=List.cons.inj e1
   have eg:js[k]?=some js[k]:=List.getElem?_eq_getElem hk'
   have mem:js[k]∈js:=List.getElem_mem hk'
   generalize hjk:js[k]=j at *
   obtain⟨x,y,z⟩:=j
   have hx:x∈ns:=hj.one _ mem
   have hy:y∈ns:=hj.other _ mem
   have hhl:(hs js k).length≤1000:=by
    have:=List.length_filter_le (hB js) (List.range k)
    rw[List.length_range]at this
    show ((List.range k).filter (hB js)).length≤1000
    omega
   obtain⟨fs',f',d',g1,g2⟩:=v_ho_step (d0:=d0) (x:=x) (z:=z) ok hl hy hv hhl k o7 o8
   refine⟨HE2 d0 (MD fs f) (hs js k) (some (nI k)) (some (.str x)) (some (.str y)) (some (.int z)) o7 o8,_,by rw[e2];rfl,g1,k+1,fs',f',(if rt x=rt y then rt else fnx rt (rt x) (rt y)),d',some (nI k),some (.str x),some (.str y),some (.int z),some (.str (rt x)),some (.str (rt y)),rfl,hk',?_,g2,?_,?_⟩
   ·have hb:=Jc4 eg
    have:(if rt x=rt y then hs js k else hs js k++[k])=hs js (k+1):=by
     rw[QW]
     by_cases e:rt x=rt y
     ·have:¬ hB js k=true:=fun w=>(hb.mp w) ((mc x y).mp e)
      rw[if_pos e,if_neg this,List.append_nil]
     ·have:hB js k=true:=hb.mpr fun w=>e ((mc x y).mpr w)
      rw[if_neg e,if_pos this]
    rw[←this]
   ·intro n
    by_cases e:rt x=rt y
    ·rw[if_pos e];exact hv n
    ·rw[if_neg e]
     unfold fnx
     by_cases w:rt n=rt y
     ·rw[if_pos w]
      rcases hv x with q | q
      ·exact .inl q
      ·rw[q];exact .inl hx
     ·rw[if_neg w];exact hv n
   ·have es:sel js allB (k+1)=sel js allB k++[(x,y,z)]:=by simp[sel,eg,allB]
    rw[es]
    by_cases e:rt x=rt y
    ·rw[if_pos e];exact mc.same e
    ·rw[if_neg e];exact mc.step)
  js.zipIdx (HE2 d0 (MD [] id) [] none none none none none none)
  ⟨0,[],id,id,fun _=>0,none,none,none,none,none,none,by simp,Nat.zero_le _,rfl,UF.start ns,fun _=>.inr rfl,fun a b=>⟨fun h=>by cases h;exact .refl _,fun h=>by
   obtain⟨o,r⟩:=h
   show a=b
   induction r with
   | refl=>rfl
   | fwd _ m _=>cases m
   | bwd _ m _=>cases m⟩⟩
 obtain⟨env',f1,k,fs,f,rt,d,o3,o4,o5,o6,o7,o8,e1,hk,rfl,ok,_,mc⟩:=hloop
 have hkl:k=js.length:=by
  have:=congrArg List.length e1
  simp at this;omega
 subst hkl
 refine UN (env0:=[some d0,none,none,none,none,none,none,none,none]) (env:=(HE2 d0 (MD fs f) (hs js js.length) o3 o4 o5 o6 o7 o8).set 2 none) ⟨rfl,by decide⟩ rfl ?_ (by rfl)
 unfold ZW
 refine Jh (env1:=[some d0,some (MD [] id),none,none,none,none,none,none,none]) (by unfold MD;simp) ?_
 refine Jh (env1:=HE2 d0 (MD [] id) [] none none none none none none) (by unfold HE2;simp) ?_
 refine Jh (env1:=HE2 d0 (MD fs f) (hs js js.length) o3 o4 o5 o6 o7 o8) ?_ ?_
 ·generalize MD [] id=A0 at *
  generalize MD fs f=A1 at *
  generalize hs js js.length=HH at *
  unfold HE2 at *
  simp only[List.map_nil]at f1
  cases hd<;>simp[hnum,f1]
 ·unfold HE2;simp
end VS
namespace VS
open PySem L2 SeqAt
abbrev Eg:=Nat × Int × Str
theorem if_t {ct:CT} {s1 s2:CS} {env env1:Env} {o:O} (h:ct env=.ok true env1) (h2:s1 env1=o):sIf ct s1 s2 env=o:=by
 unfold sIf;rw[h];exact h2
theorem if_f {ct:CT} {s1 s2:CS} {env env1:Env} {o:O} (h:ct env=.ok false env1) (h2:s2 env1=o):sIf ct s1 s2 env=o:=by
 unfold sIf;rw[h];exact h2
structure EOk (ns fs:List Str) (E:Str→List Eg) (k:Nat):Prop where
 nd:fs.Nodup
 sub:∀n∈fs,n∈ns
 out:∀n,n∉fs→E n=[]
 len:∀n,(E n).length≤k
theorem EOk.up {ns fs:List Str} {E:Str→List Eg} {k k':Nat} (h:EOk ns fs E k) (hk:k≤k'):EOk ns fs E k':=⟨h.nd,h.sub,h.out,fun n=>Nat.le_trans (h.len n) hk⟩
structure EAdj (js:List Jn) (done:List Nat) (E:Str→List Eg):Prop where
 adj:∀a b,(∃p s,(p,s,b)∈E a)↔∃i,i∈done∧∃j:Jn,js[i]?=some j∧j.1≠j.2.1∧((a=j.1∧b=j.2.1)∨(a=j.2.1∧b=j.1))
 st:∀(a:Str) (e:Eg),e∈E a→e.1∈done∧∃j:Jn,js[e.1]?=some j∧((e.2.1=1∧a=j.1∧e.2.2=j.2.1)∨(e.2.1=-1∧a=j.2.1∧e.2.2=j.1))
end VS
namespace VS
open PySem L2 SeqAt
structure FI (ns:List Str) (C:Str→Prop) (s:Str) (R:List Str):Prop where
 nd:R.Nodup
 sub:∀n∈R,n∈ns
 st:s∈R
 con:∀n∈R,C n
theorem FI.len {ns:List Str} {C:Str→Prop} {s:Str} {R:List Str} (h:FI ns C s R):R.length≤ns.length:=Uo h.nd h.sub
end VS
namespace VS
open PySem L2 SeqAt
theorem Qn (n:Nat):∀l:List Nat,eqOks (n+1) (l.map nI)=true
 | []=>rfl
 | j::l=>by
  have:=Qn n l
  simp only[List.map_cons,eqOks,this,Bool.and_true];rfl
theorem Zu:∀l:List Nat,nols (l.map nI)=true
 | []=>rfl
 | e::l=>by rw[List.map_cons];show ((nI e).nol && nols (l.map nI))=true;rw[Zu l];rfl
theorem imms_nI (l:List Nat):imms (l.map nI)=true:=Qj (f:=nI) (fun _=>rfl) l
theorem hs_mem {js:List Jn} {k i:Nat}:i∈hs js k↔i < k∧hB js i=true:=by unfold hs;simp
section
variable {ns:List Str} {js:List Jn} {dn dj:D} {n:Nat} {jn:Jn}
theorem UO (hd:Hold jt js dj) (hj:JOk ns js) (hl:ns.length≤100) (hjl:js.length≤300):Yp [dn,dj]=.ok (.lst .m ((hs js js.length).map nI)) []:=by
 have vh:=v_held hd hj hl (by omega)
 have hld:dj.lend=dj:=by cases hd<;>simp
 refine UN (env0:=[some dn,some dj]) (env:=[some dn,some dj]) ⟨rfl,by decide⟩ rfl ?_ (by rfl)
 unfold JbI
 simp[hld,vh,Zu]
end
end VS
namespace VS
open PySem L2 SeqAt
theorem Jae:∀(n:Nat) (g:List Str),eqOks n (g.map D.str)=true
 | n,[]=>by cases n<;>rfl
 | n,x::g=>by
  have:eqOk n (.str x)=true:=by cases n<;>rfl
  rw[List.map_cons]
  simp only[eqOks,Jae n g,this,Bool.and_true]
theorem Jcl (js:List J):∀k,sel js allB k=js.take k
 | 0=>by simp[sel]
 | k+1=>by
  unfold sel
  rw[Jcl js k]
  cases e:js[k]? with
  | none =>
   have:=List.getElem?_eq_none_iff.mp e
   simp only
   rw[List.take_of_length_le (by omega),List.take_of_length_le (by omega)]
  | some j =>
   simp only[allB,if_true]
   obtain⟨h,e2⟩:=List.getElem?_eq_some_iff.mp e
   rw[List.take_succ,e];rfl
def CD (g:Fl) (R:List Str):D:=.dct g (R.map Sum.inr) (R.map fun _=>.bl true)
theorem e_inCD (g:Fl) (R:List Str) (a:Str):pInW (.str a) (CD g R)=some (.bl (decide (a∈R))):=by
 have h:pIn (.str a) (CD g R)=some (.bl (decide (a∈R))):=by
  show ((D.str a).key.map fun k=>(Yb (R.map Sum.inr) (R.map fun _=>D.bl true) k).isSome).map D.bl=_
  rw[show (D.str a).key=some (Sum.inr a) from rfl,Option.map_some,Jbt]
  by_cases z:a∈R<;>simp[z]
 show orP2 pInS pIn (.str a) (CD g R)=_
 have h0:pInS (.str a) (CD g R)=none:=rfl
 unfold orP2
 rw[h0];exact h
theorem JcW {R:List Str} {a:Str} (nd:R.Nodup) (hl:R.length < 1000):stD (CD .m R) (.str a) (.bl true)=some (CD .m (if a∈R then R else R++[a])):=by
 show ((D.str a).key.bind fun k=>if (R.map (Sum.inr:Str→Key)).length < sizeLine then some (putD (R.map Sum.inr) (R.map fun _=>D.bl true) k (.bl true)) else none)=_
 unfold CD
 rw[show (D.str a).key=some (Sum.inr a) from rfl,Option.bind_some,if_pos (by rw[List.length_map];exact ZG (by omega))]
 unfold putD
 rw[QV Sum.inr Jaa]
 by_cases h:a∈R
 ·rw[if_pos h,if_pos h]
  simp only
  rw[Jak R (fun _=>D.bl true) a (.bl true) nd h]
  have:up1 (fun _:Str=>D.bl true) a (.bl true)=fun _=>D.bl true:=by funext m;unfold up1;split<;>rfl
  rw[this]
 ·rw[if_neg h,if_neg h]
  simp
structure CI (ns:List Str) (js:List Jn) (x:Str) (R:List Str):Prop where
 nd:R.Nodup
 sub:∀n∈R,n∈ns
 st:x∈R
 con:∀n∈R,Conn js x n
section
variable {ns:List Str} {js:List Jn} {x:Str}
def CLE (dj:D) (x:Str) (R:List Str) (g:Bool) (o4 o5 o6:Option D):Env:=[some dj,some (.str x),some (CD .m R),some (.bl g),o4,o5,o6]
theorem class_in (hj:JOk ns js) (hl:ns.length≤100) {R0:List Str} (h:CI ns js x R0) (dj:D) (o4 o5 o6:Option D) :
  ∃R g p4 p5 p6,YF (Yt 3 (Ji (gSet 4) (Ji (gSet 5) (Ji (gSet 6) Yx)))) JW (js.map jt) (CLE dj x R0 false o4 o5 o6)=.nx (CLE dj x R g p4 p5 p6)∧CI ns js x R∧(g=true→R0.length < R.length)∧(g=false→R=R0∧∀j∈js,(j.1∈R↔j.2.1∈R)):=by
 obtain⟨env',f1,R,g,p4,p5,p6,done,e1,rfl,q1,q2,q3⟩:=UY (f:=jt) (g:=Yt 3 (Ji (gSet 4) (Ji (gSet 5) (Ji (gSet 6) Yx)))) (body:=JW)
  (fun rest env=>∃R g p4 p5 p6,∃done:List Jn,done++rest=js∧env=CLE dj x R g p4 p5 p6∧CI ns js x R∧(g=true→R0.length < R.length)∧(g=false→R=R0∧∀j∈done,(j.1∈R↔j.2.1∈R)))
  (fun j rest env ⟨R,g,p4,p5,p6,done,e1,e,q1,q2,q3⟩=>by
   have hjm:j∈js:=by rw[←e1];simp
   have m1:=hj.one _ hjm
   have m2:=hj.other _ hjm
   obtain⟨a,b,z⟩:=j
   simp only at m1 m2
   have hcn:Conn js a b:=⟨z,.one hjm⟩
   have hRl:R.length≤100:=by have:=Uo q1.nd q1.sub;omega
   have i1:=e_inCD .m R
   refine⟨CLE dj x R g (some (.str a)) (some (.str b)) (some (.int z)),?_⟩
   have add:∀c,c∉R→c∈ns→Conn js x c→CI ns js x (R++[c]):=fun c hc hcn' hcc=>by
    refine⟨?_,fun n hn=>?_,by simp[q1.st],fun n hn=>?_⟩
    ·rw[List.nodup_append]
     exact⟨q1.nd,by simp,fun a ha d hd=>by simp at hd;subst hd;exact fun e=>hc (e ▸ ha)⟩
    ·rcases List.mem_append.mp hn with w | w
     ·exact q1.sub n w
     ·have:n=c:=by simpa using w
      subst this;exact hcn'
    ·rcases List.mem_append.mp hn with w | w
     ·exact q1.con n w
     ·have:n=c:=by simpa using w
      subst this;exact hcc
   have grow:∀c,R0.length < (R++[c]).length:=fun c=>by
    rw[List.length_append,List.length_singleton]
    cases g with
    | true=>have:=q2 rfl;omega
    | false=>have:=(q3 rfl).1;rw[this];omega
   have s1:=JcW (R:=R) (a:=a) q1.nd (by omega)
   by_cases ha:a∈R<;>by_cases hb:b∈R
   ·refine⟨CLE dj x R g (some (.str a)) (some (.str b)) (some (.int z)),by rw[e];rfl,?_,R,g,_,_,_,done++[(a,b,z)],by simpa using e1,rfl,q1,q2,fun hg=>⟨(q3 hg).1,fun j hj=>?_⟩⟩
    ·unfold JW CLE
     generalize CD .m R=F at *
     simp[i1,ha,hb]
    ·rcases List.mem_append.mp hj with w | w
     ·exact(q3 hg).2 j w
     ·have:j=(a,b,z):=by simpa using w
      subst this;exact⟨fun _=>hb,fun _=>ha⟩
   ·rw[if_pos ha]at s1
    have s2:=JcW (R:=R) (a:=b) q1.nd (by omega)
    rw[if_neg hb]at s2
    refine⟨CLE dj x (R++[b]) true (some (.str a)) (some (.str b)) (some (.int z)),by rw[e];rfl,?_,R++[b],true,_,_,_,done++[(a,b,z)],by simpa using e1,rfl,add b hb m2 ((q1.con a ha).trans hcn),fun _=>grow b,fun hg=>nomatch hg⟩
    unfold JW CLE
    generalize CD .m (R++[b])=F2 at *
    generalize CD .m R=F at *
    simp[i1,ha,hb,lVar,s1,s2]
   ·rw[if_neg ha]at s1
    have ok:=add a ha m1 ((q1.con b hb).trans hcn.symm)
    have s2:=JcW (R:=R++[a]) (a:=b) ok.nd (by simp;omega)
    rw[if_pos (by simp[hb])]at s2
    refine⟨CLE dj x (R++[a]) true (some (.str a)) (some (.str b)) (some (.int z)),by rw[e];rfl,?_,R++[a],true,_,_,_,done++[(a,b,z)],by simpa using e1,rfl,ok,fun _=>grow a,fun hg=>nomatch hg⟩
    unfold JW CLE
    generalize CD .m (R++[a])=F2 at *
    generalize CD .m R=F at *
    simp[i1,ha,hb,lVar,s1,s2]
   ·refine⟨CLE dj x R g (some (.str a)) (some (.str b)) (some (.int z)),by rw[e];rfl,?_,R,g,_,_,_,done++[(a,b,z)],by simpa using e1,rfl,q1,q2,fun hg=>⟨(q3 hg).1,fun j hj=>?_⟩⟩
    ·unfold JW CLE
     generalize CD .m R=F at *
     simp[i1,ha,hb]
    ·rcases List.mem_append.mp hj with w | w
     ·exact(q3 hg).2 j w
     ·have:j=(a,b,z):=by simpa using w
      subst this;exact⟨fun w=>absurd w ha,fun w=>absurd w hb⟩)
  js (CLE dj x R0 false o4 o5 o6) ⟨R0,false,o4,o5,o6,[],by simp,rfl,h,fun hg=>(nomatch hg),fun _=>⟨rfl,by simp⟩⟩
 have ed:done=js:=by simpa using e1
 subst ed
 exact⟨R,g,p4,p5,p6,f1,q1,q2,q3⟩
theorem v_lclass (hj:JOk ns js) (hl:ns.length≤100) (hx:x∈ns):∃R,JK [.lst .l (js.map jt),.str x]=.ok (CD .m R) []∧R.Nodup∧(∀n∈R,n∈ns)∧∀n,n∈R↔Conn js x n:=by
 have hi:imms (js.map jt)=true:=UC js
 obtain⟨env',f1,R,p4,p5,p6,rfl,q1,q2⟩:=Jb9 (ct:=YO) (body:=Uq)
  (P:=fun m env=>∃R g p4 p5 p6,env=CLE (.lst .l (js.map jt)) x R g p4 p5 p6∧CI ns js x R∧(g=false→∀j∈js,(j.1∈R↔j.2.1∈R))∧2 * (ns.length - R.length)+(if g=true then 1 else 0)≤m)
  (Q:=fun env=>∃R p4 p5 p6,env=CLE (.lst .l (js.map jt)) x R false p4 p5 p6∧CI ns js x R∧∀j∈js,(j.1∈R↔j.2.1∈R))
  (fun m env ⟨R,g,p4,p5,p6,e,q1,q2,q3⟩=>by
   cases g with
   | false =>
    left
    refine⟨env,?_,R,p4,p5,p6,e,q1,q2 rfl⟩
    rw[e];unfold YO CLE;simp
   | true =>
    right
    rw[if_pos rfl]at q3
    obtain⟨R',g',r4,r5,r6,g1,g2,g3,g4⟩:=class_in hj hl q1 (.lst .l (js.map jt)) p4 p5 p6
    have hR':=Uo g2.nd g2.sub
    have hR:=Uo q1.nd q1.sub
    refine⟨m - 1,env,CLE (.lst .l (js.map jt)) x R' g' r4 r5 r6,by omega,?_,?_,R',g',r4,r5,r6,rfl,g2,fun hg=>(g4 hg).2,?_⟩
    ·rw[e];unfold YO CLE;simp
    ·rw[e]
     unfold Uq
     refine Jh (env1:=CLE (.lst .l (js.map jt)) x R false p4 p5 p6) (by unfold CLE;simp) ?_
     generalize hA:CLE (.lst .l (js.map jt)) x R' g' r4 r5 r6=E2 at *
     unfold CLE at *
     simp[hi,g1]
    ·cases hg:g' with
     | true=>have:=g3 hg;rw[if_pos rfl];omega
     | false =>
      have:=(g4 hg).1
      rw[if_neg (by simp),this];omega)
  (2 * ns.length+1) 100000 (CLE (.lst .l (js.map jt)) x [x] true none none none) (by omega)
  ⟨[x],true,none,none,none,rfl,⟨by simp,fun n hn=>by simp at hn;rw[hn];exact hx,by simp,fun n hn=>by simp at hn;rw[hn];exact .refl _⟩,fun hg=>(nomatch hg),by rw[if_pos rfl,List.length_singleton];omega⟩
 refine⟨R,?_,q1.nd,q1.sub,fun n=>⟨q1.con n,fun ⟨o,r⟩=>?_⟩⟩
 ·refine UN (env0:=[some (.lst .l (js.map jt)),some (.str x),none,none,none,none,none]) (env:=(CLE (.lst .l (js.map jt)) x R false p4 p5 p6).set 2 none) ⟨rfl,by decide⟩ rfl ?_ (by rfl)
  unfold ZR
  refine Jh (env1:=[some (.lst .l (js.map jt)),some (.str x),some (CD .m [x]),none,none,none,none]) (by unfold CD;simp[D.key]) ?_
  refine Jh (env1:=CLE (.lst .l (js.map jt)) x [x] true none none none) (by unfold CLE;simp) ?_
  refine Jh (env1:=CLE (.lst .l (js.map jt)) x R false p4 p5 p6) ?_ ?_
  ·rw[e_while];exact f1
  ·have im:(CD .m R).imm=false:=rfl
   unfold CLE
   generalize CD .m R=F at *
   simp[im]
 ·induction r with
  | refl=>exact q1.st
  | fwd r' m ih=>exact(q2 _ m).mp (ih ⟨_,r'⟩)
  | bwd r' m ih=>exact(q2 _ m).mpr (ih ⟨_,r'⟩)
end
end VS
namespace VS
open PySem L2 SeqAt
theorem cut63 (xs:List D):cutD xs none (some 63)=xs.take 63:=by
 have e2:HT.sIx xs.length xs.length (some 63)=min 63 xs.length:=by unfold HT.sIx;simp only;rw[if_neg (by omega)];omega
 unfold cutD
 simp only[HT.sIx_none,e2,List.drop_zero,Nat.sub_zero]
 by_cases h:xs.length≤63
 ·rw[List.take_of_length_le h,List.take_of_length_le (by omega)]
 ·rw[Nat.min_eq_left (by omega)]
theorem v_begin (xs:List Int):∃c,YG [.lst .l (xs.map D.int)]=.ok (st c 0) []∧StO 0 c 0:=by
 have hc:=cut63 (xs.map D.int)
 have hm:(xs.map D.int).take 63=(xs.take 63).map D.int:=by rw[List.map_take]
 rw[hm]at hc
 have hl:(xs.take 63).length≤63:=by simp;omega
 generalize xs.take 63=ys at hc hl
 have hne:pEq (.lst .m (ys.map D.int)) (.lst .m [])=some (.bl ys.isEmpty):=by
  have e:eqOk 40 (.lst .m (ys.map D.int))=true:=by
   unfold eqOk
   have:∀zs:List Int,eqOks 39 (zs.map D.int)=true:=fun zs=>by
    induction zs with
    | nil=>rfl
    | cons z zs ih=>simp only[List.map_cons,eqOks,ih,Bool.and_true];rfl
   exact this ys
  have e':eqOk 40 (.lst .m [])=true:=rfl
  unfold pEq;rw[e,e']
  cases ys<;>rfl
 have hst:∀zs:List Int,st zs 0=.dct .m [Sum.inr "cells", Sum.inr "turn"] [.lst .m (zs.map D.int),.int 0]:=fun zs=>rfl
 have kne:¬ ("cells" : Str) = "turn" := by decide
 cases ys with
 | nil =>
  refine⟨[7],?_,⟨by decide,by decide,by decide,by decide⟩⟩
  refine UN (env0:=[some (.lst .l (xs.map D.int)),none]) (env:=[some (.lst .l (xs.map D.int)),none]) ⟨rfl,by decide⟩ rfl ?_ (by rfl)
  unfold US
  refine Jh (env1:=[some (.lst .l (xs.map D.int)),some (.lst .m [])]) (by simp at hc;simp[hc]) ?_
  refine Jh (env1:=[some (.lst .l (xs.map D.int)),some (.lst .m [.int 7])]) (by simp at hne;simp[hne]) ?_
  rw[hst];simp[D.key,kne]
 | cons y ys =>
  refine⟨y::ys,?_,⟨by simp,by simpa using (by omega:(y::ys).length≤64),by decide,by decide⟩⟩
  rw[hst]
  generalize hL:(y::ys).map D.int=LL at *
  have hi:imms LL=true:=by rw[←hL];simp
  have hll:LL.length≤sizeLine:=by rw[←hL,List.length_map];exact Ye (by omega)
  refine UN (env0:=[some (.lst .l (xs.map D.int)),none]) (env:=[some (.lst .l (xs.map D.int)),none]) ⟨rfl,by decide⟩ rfl ?_ (by rfl)
  unfold US
  refine Jh (env1:=[some (.lst .l (xs.map D.int)),some (.lst .m LL)]) (by simp[hc,hi,hll]) ?_
  refine Jh (env1:=[some (.lst .l (xs.map D.int)),some (.lst .m LL)]) (by simp at hne;simp[hne]) ?_
  simp[D.key,kne]
end VS
namespace VS
open PySem L2 SeqAt
theorem int_short {i:Int} (h1:-10000000000000≤i) (h2:i≤10000000000000):(PyData.int i).leavesShort 24=true∧(PyData.int i).showable=true∧(PyData.int i).weight≤64:=by
 have hn:i.natAbs≤10000000000000:=by omega
 have hl:i.natAbs.log2 < 44:=by
  by_cases h0:i.natAbs=0
  ·rw[h0];decide
  ·exact(Nat.log2_lt h0).mpr (by omega)
 refine⟨?_,?_,?_⟩
 ·have e:=int_text_length_le10 (a:=i) (k:=14) (by decide) (by omega)
  have:(PyData.shown (.int i)).length=(toString i).length:=ofString_length _
  simp only[PyData.leavesShort,decide_eq_true_eq]
  omega
 ·simp only[PyData.showable,decide_eq_true_eq];omega
 ·simp only[PyData.weight];split<;>omega
theorem JcJ:∀l:List Nat,pys (l.map nI)=some (l.map fun i=>PyData.int (i:Nat))
 | []=>rfl
 | i::l=>by rw[List.map_cons,pys,JcJ l];rfl
structure Sh (w k:Nat) (y:PyData):Prop where
 l:y.leavesShort 24=true
 s:y.showable=true
 w:y.weight≤w
 d:y.depth≤k
theorem JcH {α:Type} {f:α→PyData} {w k:Nat}:∀{xs:List α},(∀x∈xs,Sh w k (f x))→PyData.leavesShortAll 24 (xs.map f)=true∧PyData.showableAll (xs.map f)=true∧PyData.weightAll (xs.map f)≤(w+1) * xs.length∧PyData.depthAll (xs.map f)≤k
 | [],_=>⟨rfl,rfl,by simp[PyData.weightAll],by simp[PyData.depthAll]⟩
 | x::xs,h=>by
  obtain⟨a1,a2,a3,a4⟩:=JcH (xs:=xs) fun y hy=>h y (by simp[hy])
  have q:=h x (by simp)
  refine⟨by simp[PyData.leavesShortAll,q.l,a1],by simp[PyData.showableAll,q.s,a2],?_,?_⟩
  ·have:=q.w
   simp only[List.map_cons,PyData.weightAll,List.length_cons]
   rw[Nat.mul_add];omega
  ·have:=q.d
   simp only[List.map_cons,PyData.depthAll];omega
theorem sh_list {α:Type} {f:α→PyData} {w k n:Nat} {xs:List α} (h:∀x∈xs,Sh w k (f x)) (hn:xs.length≤n):Sh ((w+1) * n) (k+1) (.list (xs.map f)):=by
 obtain⟨a1,a2,a3,a4⟩:=JcH h
 exact⟨by simpa only [PyData.leavesShort] using a1,by simpa only [PyData.showable] using a2,by simp only[PyData.weight];exact Nat.le_trans a3 (Nat.mul_le_mul_left _ hn),by simp only[PyData.depth];omega⟩
theorem repr_nI (g:Fl) {l:List Nat} (h:l.length≤1000) (hl:∀i∈l,i≤1000):∃s,JaS [.lst g (l.map nI)]=some (.str s):=by
 have e:=JcJ l
 have hs:Sh ((64+1) * 1000) (0+1) (.list (l.map fun i=>PyData.int (i:Nat))):=sh_list (fun i hi=>by
  have:=hl i hi
  obtain⟨a,b,c⟩:=int_short (i:=(i:Nat)) (by omega) (by omega)
  exact⟨a,b,c,by simp[PyData.depth]⟩) h
 generalize hy:PyData.list (l.map fun i=>PyData.int (i:Nat))=y at hs
 have ok:shOk y=true:=by
  have h1:y.shown.length≤sizeLine:=by
   have h:=PyData.shown_le 24 (by decide) y hs.l
   have:=hs.w
   rw[sizeLine_eq];omega
  have h2:y.depth≤100:=by have:=hs.d;omega
  unfold shOk;rw[hs.s,decide_eq_true h1,decide_eq_true h2];rfl
 refine⟨y.shown,?_⟩
 have e2:(D.lst g (l.map nI)).py=some y:=by
  show (pys (l.map nI)).map PyData.list=_
  rw[e,←hy];rfl
 unfold JaS
 simp only[e2,ok,if_true]
end VS
namespace VS
open PySem L2 SeqAt
def ltrL:Str := "abcdefghijklmnopqrstuvwxyz"
def chL (n:Nat):Str:=⟨#[97+n]⟩
def lgN (n:Nat):Str:=chL (7 * n % 26)++repS "q" ((n / 26:Nat):Int)
def lgs:List Str:=(List.range 40).map lgN
theorem JcG:lgs.length=40:=by unfold lgs;simp
theorem at26L {n:Nat} (h:n < 26):ixD (.str ltrL) (.int (n:Int))=some (.str (chL n)):=by
 have h1:ltrL.length≤sizeLine:=Ye (by decide +kernel)
 have:∀n < 26,atI ltrL.cps.toList ((n:Nat):Int)=some (97+n):=by decide +kernel
 show (if ltrL.length≤sizeLine then _ else none)=_
 rw[if_pos h1,this n h];rfl
theorem add_strsL {x y:Str} (h:x.length+y.length≤1000):pAdd (.str x) (.str y)=some (.str (x++y)):=by
 have:=Ye h
 simp[pAdd,orP2,JcY,pI,Ja7,JaU,JaO,this]
theorem ins_jts {l:List Jn} (hl:l.length≤100000) {i:Int} (h0:0≤i) (h1:i≤l.length) (x:Jn):Zv (.lst .m (l.map jt)) [.int i,jt x]=some (.lst .m ((l.take i.toNat++[x]++l.drop i.toNat).map jt),.non):=by
 unfold Zv
 have:(l.map jt).length < sizeLine∧(0:Int)≤i∧i < 2 ^ 63:=⟨by rw[List.length_map];exact ZG (by omega),h0,by omega⟩
 simp only[if_pos this]
 rw[←List.map_take,←List.map_drop]
 simp
def LGE (A:D) (m:Int) (k:Nat) (js:List Jn) (o6 o7:Option D):Env:=[some A,some (.int m),some (.str ltrL),some (.lst .m (lgs.map D.str)),some (.int (k:Nat)),some (.lst .m (js.map jt)),o6,o7]
theorem long_step {B:Int} {c:List Int} {t:Int} (h:StO B c t) (hB:B≤900000) (m:Int) {k:Nat} (hk:k≤200) {js:List Jn} (hj:JOk lgs js) (hjl:js.length=k) (o6 o7:Option D) :
  ∃js' c' t' p6 p7,Uc (LGE (st c t) m k js o6 o7)=.nx (LGE (st c' t') m k js' p6 p7)∧JOk lgs js'∧js'.length=k+1∧StO (B+4) c' t':=by
 obtain⟨r1,ca,e1,p1,q1,s1⟩:=JZ h (by omega) (m:=2) (by decide) (by decide)
 obtain⟨r2,cb,e2,p2,q2,s2⟩:=JZ s1 (by omega) (m:=9) (by decide) (by decide)
 obtain⟨r3,cc,e3,p3,q3,s3⟩:=JZ s2 (by omega) (m:=2) (by decide) (by decide)
 obtain⟨r4,cd,e4,p4,q4,s4⟩:=JZ s3 (by omega) (m:=((k:Nat):Int)+1) (by omega) (by omega)
 have hlg:=JcG
 obtain⟨x,mx,gx⟩:=ZB (ns:=lgs) (r:=((k:Nat):Int) % 39) (by omega) (by rw[hlg];omega)
 have i0:=JS c t
 have i1:=JS ca (t+1)
 have i2:=JS cb (t+1+1)
 have i3:=JS cc (t+1+1+1)
 have n1:=JQ ca (t+1)
 have n2:=JQ cb (t+1+1)
 have n3:=JQ cc (t+1+1+1)
 have n4:=JQ cd (t+1+1+1+1)
 have b1:((k:Nat):Int) < 18446744073709551616:=by omega
 have b2:-18446744073709551616 < ((k:Nat):Int):=by omega
 obtain⟨to,ht0,ht1,hmin⟩:∃to:Int,0≤to∧to < 40∧(sAsg (cL JaY (Jc (cK (.int 39)) (Jc (c2 pAdd (c2 pAdd (c2 pMod (cVar 4) (cK (.int 39))) (cK (.int 1))) (c2 Ug (cL JaT (Jc (c2 pGtG (cVar 4) (cK (.int 38))) cNil)) (Jo Jb (aOw (cMv 0) (some 0) (aRo (cK (.int 2)) aNil))))) cNil))) (gSet 6)) (LGE (st c t) m k js o6 o7)=.nx (LGE (st ca (t+1)) m k js (some (.int to)) o7):=by
  by_cases hk38:(38:Int) < (k:Nat)
  ·refine⟨if ((k:Nat):Int) % 39+1+r1 < 39 then ((k:Nat):Int) % 39+1+r1 else 39,by split<;>omega,by split<;>omega,?_⟩
   have hm:JaY [.int 39,.int (((k:Nat):Int) % 39+1+r1)]=some (.int (if ((k:Nat):Int) % 39+1+r1 < 39 then ((k:Nat):Int) % 39+1+r1 else 39)):=rfl
   have c1':r1 < 18446744073709551616:=by omega
   have c2':-18446744073709551616 < r1:=by omega
   generalize st c t=A0 at *
   generalize st ca (t+1)=A1 at *
   unfold LGE;simp[hk38,e1,i0,n1,b1,b2,c1',c2']
  ·refine⟨if ((k:Nat):Int) % 39+1 < 39 then ((k:Nat):Int) % 39+1 else 39,by split<;>omega,by split<;>omega,?_⟩
   have c1':r1 < 18446744073709551616:=by omega
   have c2':-18446744073709551616 < r1:=by omega
   generalize st c t=A0 at *
   generalize st ca (t+1)=A1 at *
   unfold LGE;simp[hk38,e1,i0,n1,b1,b2,c1',c2']
 obtain⟨y,my,gy⟩:=ZB (ns:=lgs) (r:=to) ht0 (by rw[hlg];omega)
 have t2:(sAsg (cTup (Jc (cImm (cIdx (cVar 3) (c2 pMod (cVar 4) (cK (.int 39))))) (Jc (cImm (cIdx (cVar 3) (cVar 6))) (Jc (c2 pSub (Jo Jb (aOw (cMv 0) (some 0) (aRo (cK (.int 9)) aNil))) (cK (.int 4))) cNil)))) (gSet 7)) (LGE (st ca (t+1)) m k js (some (.int to)) o7)=.nx (LGE (st cb (t+1+1)) m k js (some (.int to)) (some (jt (x,y,r2 - 4)))):=by
  have ej:jt (x,y,r2 - 4)=.tup [.str x,.str y,.int (r2 - 4)]:=rfl
  rw[ej]
  generalize st ca (t+1)=A1 at *
  generalize st cb (t+1+1)=A2 at *
  unfold LGE
  generalize lgs.map D.str=LL at *
  simp[b1,b2,gx,gy,e2,i1,n2]
 obtain⟨j,hj1,hj2,hj3,hj4,t3⟩:∃j:Jn,j.1∈lgs∧j.2.1∈lgs∧-1000000000000≤j.2.2∧j.2.2≤1000000000000∧(sIf (cTt (c2 pEq (Jo Jb (aOw (cMv 0) (some 0) (aRo (cK (.int 2)) aNil))) (cK (.int 0)))) (sAsg (cTup (Jc (cImm (cIdx (cVar 7) (cK (.int 1)))) (Jc (cImm (cIdx (cVar 7) (cK (.int 0)))) (Jc (c1 pNeg (cIdx (cVar 7) (cK (.int 2)))) cNil)))) (gSet 7)) sNil) (LGE (st cb (t+1+1)) m k js (some (.int to)) (some (jt (x,y,r2 - 4))))=.nx (LGE (st cc (t+1+1+1)) m k js (some (.int to)) (some (jt j))):=by
  have ej:jt (x,y,r2 - 4)=.tup [.str x,.str y,.int (r2 - 4)]:=rfl
  have y0:atI [D.str x,.str y,.int (r2 - 4)] 0=some (.str x):=rfl
  have y1:atI [D.str x,.str y,.int (r2 - 4)] 1=some (.str y):=rfl
  have y2:atI [D.str x,.str y,.int (r2 - 4)] 2=some (.int (r2 - 4)):=rfl
  by_cases h0:r3=0
  ·refine⟨(y,x,-(r2 - 4)),my,mx,by simp only;omega,by simp only;omega,?_⟩
   have ej2:jt (y,x,-(r2 - 4))=.tup [.str y,.str x,.int (-(r2 - 4))]:=rfl
   rw[ej,ej2]
   generalize st cb (t+1+1)=A2 at *
   generalize st cc (t+1+1+1)=A3 at *
   refine if_t (env1:=LGE A3 m k js (some (.int to)) (some (.tup [.str x,.str y,.int (r2 - 4)]))) (by unfold LGE;simp[e3,i2,n3,h0]) ?_
   unfold LGE;simp[y0,y1,y2]
  ·refine⟨(x,y,r2 - 4),mx,my,by simp only;omega,by simp only;omega,?_⟩
   generalize st cb (t+1+1)=A2 at *
   generalize st cc (t+1+1+1)=A3 at *
   refine if_f (env1:=LGE A3 m k js (some (.int to)) (some (jt (x,y,r2 - 4)))) (by unfold LGE;simp[e3,i2,n3,h0]) rfl
 have ins:=ins_jts (l:=js) (by omega) p4 (by rw[hjl];omega) j
 have hj':JOk lgs (js.take r4.toNat++[j]++js.drop r4.toNat):=by
  have hm:∀q∈js.take r4.toNat++[j]++js.drop r4.toNat,q∈js∨q=j:=fun q hq=>by
   rcases List.mem_append.mp hq with z | z
   ·rcases List.mem_append.mp z with z | z
    ·exact .inl (List.mem_of_mem_take z)
    ·exact .inr (by simpa using z)
   ·exact .inl (List.mem_of_mem_drop z)
  exact⟨fun q hq=>(hm q hq).elim (hj.one q) (fun e=>e ▸ hj1),fun q hq=>(hm q hq).elim (hj.other q) (fun e=>e ▸ hj2),fun q hq=>(hm q hq).elim (hj.lo q) (fun e=>e ▸ hj3),fun q hq=>(hm q hq).elim (hj.hi q) (fun e=>e ▸ hj4)⟩
 refine⟨js.take r4.toNat++[j]++js.drop r4.toNat,cd,t+1+1+1+1,some (.int to),some (jt j),?_,hj',by simp;omega,s4.up (by omega)⟩
 unfold Uc
 refine Jh hmin (Jh t2 (Jh t3 ?_))
 have ij:(jt j).imm=true:=rfl
 generalize js.take r4.toNat++[j]++js.drop r4.toNat=js2 at *
 generalize st cc (t+1+1+1)=A3 at *
 generalize st cd (t+1+1+1+1)=A4 at *
 unfold LGE
 generalize jt j=JJ at *
 generalize js.map jt=JL at *
 generalize js2.map jt=JL2 at *
 simp[e4,i3,n4,lVar,ins,ij]
theorem lg_el {L q x1 x2 r:Str} {o3:Option D} {A:D} {m:Int} {n:Nat} (hn:n < 40) {m1 m2:Int} (e1:(7 * (n:Int)) % 26=m1) (e2:(n:Int) / 26=m2) (a1:ixD (.str L) (.int m1)=some (.str x1)) (a2:QQ (.str q) (.int m2)=some (.str x2)) (a3:pAdd (.str x1) (.str x2)=some (.str r)) :
  (c2 pAdd (cIdx (cVar 2) (c2 pMod (c2 Ug (cK (.int 7)) (cVar 4)) (cK (.int 26)))) (c2 QQ (cK (.str q)) (c2 pDiv (cVar 4) (cK (.int 26))))) [some A,some (.int m),some (.str L),o3,some (.int (n:Int)),none,none,none]=.ok (.str r) [some A,some (.int m),some (.str L),o3,some (.int (n:Int)),none,none,none]:=by
 have b1:(n:Int) < 18446744073709551616:=by omega
 have b2:-18446744073709551616 < (n:Int):=by omega
 simp[b1,b2,e1,e2,a1,a2,a3,-Jdh]
theorem v_long {B:Int} {c:List Int} {t:Int} (h:StO B c t) (hB:B≤800000) {m:Int} (h0:0≤m) (h1:m≤200):∃js c' t',YE [st c t,.int m]=.ok (.tup [.lst .m (lgs.map D.str),.lst .m (js.map jt)]) [st c' t']∧JOk lgs js∧js.length=m.toNat∧StO (B+800) c' t':=by
 obtain⟨env',f1,js,c',t',o6,o7,o4,k,hk,rfl,hj,hjl,s',_⟩:=UY (f:=fun i:Nat=>D.int (i:Nat)) (g:=gSet 4) (body:=Uc)
  (fun rest env=>∃js c t o6 o7 o4,∃k:Nat,k+rest.length=m.toNat∧env=(LGE (st c t) m 0 js o6 o7).set 4 o4∧JOk lgs js∧js.length=k∧StO (B+4 * k) c t∧rest=(List.range m.toNat).drop k)
  (fun x rest env ⟨js,c,t,o6,o7,o4,k,hk,e,hj,hjl,hs,hr⟩=>by
   simp only[List.length_cons]at hk
   have hkx:x=k:=by
    have e3:((List.range m.toNat).drop k)[0]?=some x:=by rw[←hr];rfl
    rw[List.getElem?_drop,Nat.add_zero,List.getElem?_range (by omega)]at e3
    exact(Option.some.inj e3).symm
   subst hkx
   obtain⟨js',c',t',p6,p7,q1,q2,q3,q4⟩:=long_step hs (by omega) m (k:=x) (by omega) hj hjl o6 o7
   refine⟨LGE (st c t) m x js o6 o7,LGE (st c' t') m x js' p6 p7,by rw[e];rfl,q1,js',c',t',p6,p7,some (.int (x:Nat)),x+1,by omega,rfl,q2,q3,q4.up (by push_cast;omega),?_⟩
   ·have:=congrArg List.tail hr
    simp only[List.tail_cons]at this
    rw[this,List.tail_drop])
  (List.range m.toNat) ((LGE (st c t) m 0 [] none none).set 4 none) ⟨[],c,t,none,none,none,0,by simp,rfl,⟨by simp,by simp,by simp,by simp⟩,rfl,h.up (by simp),by simp⟩
 have hkm:k=m.toNat:=by simpa using hk
 refine⟨js,c',t',?_,hj,by omega,s'.up (by omega)⟩
 have hr:=Jcy m (by omega) (by omega)
 have hr40:Uk [.int 40]=some ((List.range 40).map fun i:Nat=>D.int (i:Nat)):=Jcy 40 (by decide) (by decide)
 have hc:=Jcs (f:=fun i:Nat=>D.int (i:Nat)) (vs:=[4]) (g:=gSet 4) (ce:=(c2 pAdd (cIdx (cVar 2) (c2 pMod (c2 Ug (cK (.int 7)) (cVar 4)) (cK (.int 26)))) (c2 QQ (cK (.str "q")) (c2 pDiv (cVar 4) (cK (.int 26)))))) (env:=[some (st c t),some (.int m),some (.str ltrL),none,none,none,none,none]) (y:=fun n=>D.str (lgN n)) (xs:=List.range 40) (fun n hn=>⟨[some (st c t),some (.int m),some (.str ltrL),none,some (.int (n:Nat)),none,none,none],rfl,rfl,by
  have hn:n < 40:=List.mem_range.mp hn
  have e1:(7 * (n:Int)) % 26=((7 * n % 26:Nat):Int):=by omega
  have e2:(n:Int) / 26=((n / 26:Nat):Int):=by omega
  have a1:=at26L (n:=7 * n % 26) (by omega)
  have a2:QQ (.str "q") (.int ((n / 26:Nat):Int))=some (.str (repS "q" ((n / 26:Nat):Int))):=by
   have hq:("q" : Str).length≤1000:=by decide
   have hd:n / 26≤1:=by omega
   rw[Jdh,if_pos ⟨by omega,by omega,hq⟩]
  have a3:pAdd (.str (chL (7 * n % 26))) (.str (repS "q" ((n / 26:Nat):Int)))=some (.str (lgN n)):=by
   refine add_strsL ?_
   have l1:(chL (7 * n % 26)).length=1:=rfl
   have hd:n / 26=0∨n / 26=1:=by omega
   rcases hd with hd | hd<;>rw[hd,l1]<;>decide
  exact lg_el hn e1 e2 a1 a2 a3,rfl⟩)
 have hm:((List.range 40).map fun n=>D.str (lgN n))=lgs.map D.str:=by unfold lgs;rw[List.map_map];rfl
 rw[hm]at hc
 have hz:(40:Nat)≤sizeLine:=Ye (by decide)
 have hl0:((List.range 40).map fun i:Nat=>D.int (i:Nat)).length=40:=by simp
 generalize hR:((List.range 40).map fun i:Nat=>D.int (i:Nat))=R40 at *
 refine UN (env0:=[some (st c t),some (.int m),none,none,none,none,none,none]) (env:=(((LGE (st c' t') m 0 js o6 o7).set 4 o4).set 3 none).set 5 none) ⟨rfl,by decide⟩ rfl ?_ (by rfl)
 have iLL:(D.lst .m (lgs.map D.str)).imm=false:=rfl
 have iJJ:(D.lst .m (js.map jt)).imm=false:=rfl
 unfold QM
 generalize st c t=A0 at *
 generalize st c' t'=A1 at *
 refine Jh (env1:=[some A0,some (.int m),some (.str ltrL),none,none,none,none,none]) (by simp;rfl) ?_
 unfold LGE at *
 generalize lgs.map D.str=LL at *
 refine Jh (env1:=[some A0,some (.int m),some (.str ltrL),some (.lst .m LL),none,none,none,none]) (by simp[hr40,hl0,hz,hc]) ?_
 refine Jh (env1:=[some A0,some (.int m),some (.str ltrL),some (.lst .m LL),none,some (.lst .m []),none,none]) (by simp) ?_
 refine Jh (env1:=[some A1,some (.int m),some (.str ltrL),some (.lst .m LL),o4,some (.lst .m (js.map jt)),o6,o7]) ?_ ?_
 ·simp only[List.set_cons_succ,List.set_cons_zero,List.map_nil]at f1
  simp[hr,f1]
 ·generalize js.map jt=JL at *
  simp
end VS
namespace VS
open PySem L2 SeqAt
section
variable {js ts:List Jn}
theorem JaH {i:Nat} {j:Jn} (e:js[i]?=some j):hB js i=true↔¬ Conn (js.take i) j.1 j.2.1:=by rw[Jc4 e,Jcl]
theorem JaE {i:Nat} (h:js.length≤i):hB js i=false:=by
 cases e:hB js i with
 | false=>rfl
 | true =>
  obtain⟨j,q,_⟩:=hB_t.mp e
  rw[List.getElem?_eq_none h]at q;cases q
theorem Jbz {js':List Jn} {i:Nat} {j j':Jn} (e:js[i]?=some j) (e':js'[i]?=some j') (h:Conn (js.take i) j.1 j.2.1↔Conn (js'.take i) j'.1 j'.2.1):hB js i=hB js' i:=by
 cases q:hB js' i with
 | true=>exact(JaH e).mpr fun z=>(JaH e').mp q (h.mp z)
 | false =>
  cases q2:hB js i with
  | false=>rfl
  | true=>exact absurd ((JaH e').mpr fun z=>(JaH e).mp q2 (h.mpr z)) (by rw[q];simp)
theorem Jaf {js':List Jn} {k:Nat} (h:∀i,i < k→hB js i=hB js' i):hs js k=hs js' k:=by
 unfold hs
 exact List.filter_congr fun i hi=>h i (List.mem_range.mp hi)
theorem Jdd {m i:Nat} (h:i < m):hB (js.take m) i=hB js i:=by
 cases e:js[i]? with
 | none =>
  have hl:=List.getElem?_eq_none_iff.mp e
  rw[JaE hl,JaE (by rw[List.length_take];omega)]
 | some j=>exact Jbz (by rw[List.getElem?_take_of_lt h];exact e) e (by rw[List.take_take,Nat.min_eq_left (by omega)])
theorem Jb5 {m:Nat}:∀{n:Nat},m≤n→(List.range n).filter (fun i=>decide (i < m))=List.range m
 | 0,h=>by
  have:m=0:=by omega
  subst this;rfl
 | n+1,h=>by
  rw[List.range_succ,List.filter_append]
  by_cases e:m=n+1
  ·subst e
   rw[List.filter_eq_self.mpr (fun i hi=>by have:=List.mem_range.mp hi;simp;omega),List.range_succ]
   simp
  ·rw[Jb5 (by omega)]
   simp;omega
theorem hs_cut {m:Nat} (h:m≤js.length):hs (js.take m) (js.take m).length=(hs js js.length).filter (fun i=>decide (i < m)):=by
 have hl:(js.take m).length=m:=by rw[List.length_take];omega
 rw[hl,Jaf (js':=js) fun i hi=>Jdd hi]
 unfold hs
 rw[List.filter_filter,←Jb5 h,List.filter_filter]
 exact List.filter_congr fun i _=>Bool.and_comm _ _
theorem Jc2 (h:∀j∈ts,Conn js j.1 j.2.1):hs (js++ts) (js++ts).length=hs js js.length:=by
 have key:∀k,hs (js++ts) (js.length+k)=hs js js.length:=fun k=>by
  induction k with
  | zero =>
   refine Jaf fun i hi=>?_
   ·have hi:i < js.length:=hi
    have e:(js++ts).take js.length=js:=by rw[List.take_append_of_le_length (Nat.le_refl _),List.take_length]
    rw[←Jdd (js:=js++ts) (m:=js.length) hi,e]
  | succ k ih =>
   rw[←Nat.add_assoc,QW,ih]
   have:hB (js++ts) (js.length+k)=false:=by
    cases e:(js++ts)[js.length+k]? with
    | none=>exact JaE (List.getElem?_eq_none_iff.mp e)
    | some j =>
     cases q:hB (js++ts) (js.length+k) with
     | false=>rfl
     | true =>
      have hj:j∈ts:=by
       rw[List.getElem?_append_right (by omega)]at e
       exact List.mem_of_getElem? e
      refine absurd ((h j hj).mono fun q hq=>?_) ((JaH e).mp q)
      rw[List.take_append]
      exact List.mem_append_left _ (by rw[List.take_of_length_le (by omega)];exact hq)
   rw[this];simp
 rw[List.length_append];exact key ts.length
def tnJ (j:Jn):Jn:=(j.2.1,j.1,-j.2.2)
theorem tnJ_tnJ (j:Jn):tnJ (tnJ j)=j:=by
 obtain⟨a,b,z⟩:=j
 simp[tnJ]
theorem tnJ_all (js:List Jn):(js.map tnJ).map tnJ=js:=by
 rw[List.map_map]
 conv=>rhs;rw[←List.map_id js]
 exact List.map_congr_left fun j _=>tnJ_tnJ j
theorem JbN {js:List Jn} {a b:Str} (h:Conn js a b):Conn (js.map tnJ) a b:=by
 obtain⟨o,r⟩:=h
 induction r with
 | refl=>exact .refl _
 | fwd r' m ih=>exact Conn.trans ih (Conn.symm ⟨_,.one (List.mem_map.mpr ⟨_,m,rfl⟩)⟩)
 | bwd r' m ih=>exact Conn.trans ih ⟨_,.one (List.mem_map.mpr ⟨_,m,rfl⟩)⟩
theorem conn_tn {js:List Jn} {a b:Str}:Conn (js.map tnJ) a b↔Conn js a b :=
 ⟨fun h=>by have:=JbN h;rwa[tnJ_all]at this,JbN⟩
theorem hB_tn (js:List Jn) (i:Nat):hB (js.map tnJ) i=hB js i:=by
 cases e:js[i]? with
 | none =>
  have hl:=List.getElem?_eq_none_iff.mp e
  rw[JaE hl,JaE (by rw[List.length_map];exact hl)]
 | some j =>
  refine Jbz (j:=tnJ j) (by rw[List.getElem?_map,e];rfl) e ?_
  rw[←List.map_take,conn_tn]
  exact⟨Conn.symm,Conn.symm⟩
theorem hs_tn (js:List Jn):hs (js.map tnJ) (js.map tnJ).length=hs js js.length:=by
 rw[List.length_map];exact Jaf fun i _=>hB_tn js i
theorem Jdl {js:List Jn} {j:Jn} (h:j∈js):Conn js j.1 j.2.1:=⟨_,.one (show (j.1,j.2.1,j.2.2)∈js from h)⟩
theorem hs_doubled (js:List Jn):hs (js++js.map tnJ) (js++js.map tnJ).length=hs js js.length :=
 Jc2 fun j hj=>by
  obtain⟨q,h1,rfl⟩:=List.mem_map.mp hj
  exact(Jdl h1).symm
theorem hs_doubled2 (js:List Jn):hs (js.map tnJ++js) (js.map tnJ++js).length=hs js js.length:=by
 rw[Jc2 fun j hj=>conn_tn.mpr (Jdl hj),hs_tn]
end
section
variable {ns:List Str} {js:List Jn}
theorem conn_nil {a b:Str} (h:Conn [] a b):a=b:=by
 obtain⟨o,r⟩:=h
 generalize hj:([]:List Jn)=l at r
 induction r with
 | refl=>rfl
 | fwd r' m ih=>subst hj;cases m
 | bwd r' m ih=>subst hj;cases m
theorem reps_ex (hj:JOk ns js) (nd:ns.Nodup):∀k,k≤js.length→∃rs:List Str,rs.Nodup∧(∀r∈rs,r∈ns)∧(∀a∈ns,∃r∈rs,Conn (js.take k) a r)∧(∀r∈rs,∀r'∈rs,Conn (js.take k) r r'→r=r')∧rs.length+(hs js k).length=ns.length:=by
 intro k
 induction k with
 | zero=>exact fun _=>⟨ns,nd,fun _ h=>h,fun a h=>⟨a,h,.refl a⟩,fun r _ r' _ h=>conn_nil h,by simp[hs]⟩
 | succ k ih =>
  intro hk
  obtain⟨rs,r1,r2,r3,r4,r5⟩:=ih (by omega)
  have ek:js[k]?=some js[k]:=List.getElem?_eq_getElem (by omega)
  generalize hjk:js[k]=j at ek
  have hm:j∈js:=List.mem_of_getElem? ek
  have m1:=hj.one _ hm
  have m2:=hj.other _ hm
  have tk:js.take (k+1)=js.take k++[j]:=by rw[List.take_succ,ek];rfl
  obtain⟨x,y,z⟩:=j
  simp only at m1 m2
  rw[QW,tk]
  have sn:∀a b,Conn (js.take k++[(x,y,z)]) a b↔Conn (js.take k) a b∨(Conn (js.take k) a x∧Conn (js.take k) y b)∨(Conn (js.take k) a y∧Conn (js.take k) x b):=fun a b=>Qq
  by_cases hb:hB js k=true
  ·have hnc:¬ Conn (js.take k) x y:=(JaH ek).mp hb
   obtain⟨u,hu,cu⟩:=r3 x m1
   obtain⟨v,hv,cv⟩:=r3 y m2
   have huv:u≠v:=fun e=>hnc (cu.trans (by rw[e];exact cv.symm))
   refine⟨rs.erase v,r1.erase v,fun r h=>r2 r (List.mem_of_mem_erase h),fun a ha=>?_,fun r hr r' hr' h=>?_,?_⟩
   ·obtain⟨r,hr,c⟩:=r3 a ha
    by_cases e:r=v
    ·refine⟨u,(List.mem_erase_of_ne huv).mpr hu,(sn a u).mpr (.inr (.inr ⟨c.trans (by rw[e];exact cv.symm),cu⟩))⟩
    ·exact⟨r,(List.mem_erase_of_ne e).mpr hr,(sn a r).mpr (.inl c)⟩
   ·have h1:r∈rs:=List.mem_of_mem_erase hr
    have h2:r'∈rs:=List.mem_of_mem_erase hr'
    have nv:∀{q},q∈rs.erase v→q≠v:=fun hq e=>by
     subst e
     exact(List.Nodup.not_mem_erase r1) hq
    rcases (sn r r').mp h with c | ⟨c1,c2⟩ | ⟨c1,c2⟩
    ·exact r4 r h1 r' h2 c
    ·exact absurd (r4 v hv r' h2 (cv.symm.trans c2)).symm (nv hr')
    ·exact absurd (r4 r h1 v hv (c1.trans cv)) (nv hr)
   ·rw[if_pos hb,List.length_append,List.length_erase_of_mem hv]
    have:0 < rs.length:=List.length_pos_of_mem hv
    simp only[List.length_singleton];omega
  ·have hc:Conn (js.take k) x y:=Classical.byContradiction fun q=>hb ((JaH ek).mpr q)
   have same:∀a b,Conn (js.take k++[(x,y,z)]) a b↔Conn (js.take k) a b:=fun a b=>(sn a b).trans
    ⟨fun h=>h.elim id fun h=>h.elim (fun ⟨h1,h2⟩=>h1.trans (hc.trans h2)) fun ⟨h1,h2⟩=>h1.trans (hc.symm.trans h2),.inl⟩
   refine⟨rs,r1,r2,fun a ha=>?_,fun r hr r' hr' h=>r4 r hr r' hr' ((same r r').mp h),by rw[if_neg hb];simpa using r5⟩
   obtain⟨r,hr,c⟩:=r3 a ha
   exact⟨r,hr,(same a r).mpr c⟩
theorem cls_count {α:Type} [DecidableEq α] (hj:JOk ns js) (nd:ns.Nodup) (F:Str→α) (hF:∀a∈ns,∀b∈ns,F a=F b↔Conn js a b):(ddup (ns.map F)).length+(hs js js.length).length=ns.length:=by
 obtain⟨rs,r1,r2,r3,r4,r5⟩:=reps_ex hj nd js.length (Nat.le_refl _)
 rw[List.take_length]at r3 r4
 have n1:(rs.map F).Nodup:=by
  refine List.pairwise_map.mpr (r1.imp_of_mem fun {a b} ha hb hne e=>hne (r4 a ha b hb ((hF a (r2 a ha) b (r2 b hb)).mp e)))
 have e:=nodup_len_eq (UW (ns.map F)) n1 fun x=>by
  rw[Zo]
  constructor
  ·intro h
   obtain⟨a,ha,rfl⟩:=List.mem_map.mp h
   obtain⟨r,hr,c⟩:=r3 a ha
   exact List.mem_map.mpr ⟨r,hr,(hF r (r2 r hr) a ha).mpr c.symm⟩
  ·intro h
   obtain⟨a,ha,rfl⟩:=List.mem_map.mp h
   exact List.mem_map.mpr ⟨a,r2 a ha,rfl⟩
 rw[e,List.length_map];exact r5
end
end VS
namespace VS
open PySem L2 SeqAt
theorem cut_to (xs:List D) {k:Int} (h0:0≤k) (h1:k≤xs.length):cutD xs none (some k)=xs.take k.toNat:=by
 have e2:HT.sIx xs.length xs.length (some k)=k.toNat:=by unfold HT.sIx;simp only;rw[if_neg (by omega)];omega
 unfold cutD
 simp[HT.sIx_none,e2]
def R13 (A dn dj:D) (o3 o4 o5 o6 o7 o9 o10 o13:Option D):Env:=[some A,some dn,some dj,o3,o4,o5,o6,o7,none,o9,none,none,none,o13,none]
theorem ne_strs13 (g:Fl) (l:List Str):pNe (.lst g (l.map D.str)) (.lst .m [])=some (.bl (!l.isEmpty)):=by
 have e:eqOk 40 (.lst g (l.map D.str))=true:=by unfold eqOk;exact Jae 39 l
 have e':eqOk 40 (.lst .m [])=true:=rfl
 unfold pNe;rw[e,e']
 cases l<;>rfl
theorem JOk.sub13 {ns:List Str} {js ts:List Jn} (h:JOk ns js) (hs:∀j∈ts,j∈js):JOk ns ts:=⟨fun j q=>h.one j (hs j q),fun j q=>h.other j (hs j q),fun j q=>h.lo j (hs j q),fun j q=>h.hi j (hs j q)⟩
theorem JOk.app13 {ns:List Str} {js ts:List Jn} (h:JOk ns js) (h':JOk ns ts):JOk ns (js++ts) :=
 ⟨fun j q=>(List.mem_append.mp q).elim (h.one j) (h'.one j),fun j q=>(List.mem_append.mp q).elim (h.other j) (h'.other j),fun j q=>(List.mem_append.mp q).elim (h.lo j) (h'.lo j),fun j q=>(List.mem_append.mp q).elim (h.hi j) (h'.hi j)⟩
theorem JOk.tn13 {ns:List Str} {js:List Jn} (h:JOk ns js):JOk ns (js.map tnJ) :=
 ⟨fun j q=>by obtain⟨i,hi,rfl⟩:=List.mem_map.mp q;exact h.other i hi,fun j q=>by obtain⟨i,hi,rfl⟩:=List.mem_map.mp q;exact h.one i hi,
  fun j q=>by obtain⟨i,hi,rfl⟩:=List.mem_map.mp q;have:=h.hi i hi;simp only[tnJ];omega,fun j q=>by obtain⟨i,hi,rfl⟩:=List.mem_map.mp q;have:=h.lo i hi;simp only[tnJ];omega⟩
theorem Jdg (js:List Jn) (k:Nat):(hs js k).length≤k:=by
 have b:=List.length_filter_le (hB js) (List.range k)
 rw[List.length_range]at b
 exact b
section
variable {ns:List Str} {js:List Jn}
theorem JbG {dh:D} (hd:Hold jt js dh.lend) (hp:Yi [dh]=some (.lst .m (js.map jt))) (hi:dh.imm=true) (hj:JOk ns js) (hl:ns.length≤100) (hjl:js.length≤300) (A:D) (o5:Option D) :
  YA (R13 A (.lst .l (ns.map D.str)) (.lst .l (js.map jt)) (some (.lst .m ((hs js js.length).map nI))) (some dh) o5 none none none none none)=.nx (R13 A (.lst .l (ns.map D.str)) (.lst .l (js.map jt)) (some (.lst .m ((hs js js.length).map nI))) (some dh) (some (.lst .m ((hs js js.length).map nI++[.int (-1)]))) none none none none none):=by
 have ve:=fun dn=>UO (dn:=dn) hd hj hl hjl
 have hL:=Jdg js js.length
 obtain⟨rs,hrs⟩:=repr_nI .m (l:=hs js js.length) (by omega) (fun i hi=>by have:=(hs_mem.mp hi).1;omega)
 have nn:=Zu (hs js js.length)
 have hne:=Jbs (g:=.m) (g':=.l) (Ja9 38 js)
 have hz:((hs js js.length).map nI).length < sizeLine:=by rw[List.length_map];exact ZG (by omega)
 have e0:pNe (.str rs) (.str rs)=some (.bl false):=by
  unfold pNe
  have:eqOk 40 (.str rs)=true:=rfl
  rw[this];simp[pyEq]
 generalize (hs js js.length).map nI=HH at *
 have happ:Yk (.lst .m HH) [.int (-1)]=some (.lst .m (HH++[.int (-1)]),.non):=by
  show (if HH.length < sizeLine then some (D.lst .m (HH++[.int (-1)]),D.non) else none)=_
  rw[if_pos hz]
 have k1:kdL (.lst .m HH)=true:=rfl
 generalize js.map jt=JJ at *
 generalize ns.map D.str=NN at *
 unfold YA
 refine Jh (env1:=R13 A (.lst .l NN) (.lst .l JJ) (some (.lst .m HH)) (some dh) (some (.lst .m HH)) none none none none none) (by unfold R13;simp[ve,nn]) ?_
 refine Jh (env1:=R13 A (.lst .l NN) (.lst .l JJ) (some (.lst .m HH)) (some dh) (some (.lst .m HH)) none none none none none) (by unfold R13;simp[hrs,e0,hp,hne]) ?_
 unfold R13;simp[lVar,k1,happ]
theorem r13_for (hj:JOk ns js) (hl:ns.length≤100) (hjl:js.length≤300) (A:D) :
  ∃o4 o5,(sFor (Ur (cFix (cTup (Jc (cL Yi (Jc (cVar 2) cNil)) (Jc (cL Yr (Jc (cVar 2) cNil)) cNil))))) (gSet 4) YA) (R13 A (.lst .l (ns.map D.str)) (.lst .l (js.map jt)) (some (.lst .m ((hs js js.length).map nI))) none none none none none none none)=.nx (R13 A (.lst .l (ns.map D.str)) (.lst .l (js.map jt)) (some (.lst .m ((hs js js.length).map nI))) o4 o5 none none none none none):=by
 have iJ:=UC js
 have lnj:=YC js
 have hz:(js.map jt).length≤sizeLine:=by rw[List.length_map];exact sz_le (by omega)
 have pl1:Yi [.lst .l (js.map jt)]=some (.lst .m (js.map jt)):=by simp[Yi,iJ,hz]
 have pl2:Yi [.lst .f (js.map jt)]=some (.lst .m (js.map jt)):=by simp[Yi,iJ,hz]
 have pl3:Yi [.tup (js.map jt)]=some (.lst .m (js.map jt)):=by simp[Yi,iJ,hz]
 have pt1:Yr [.lst .l (js.map jt)]=some (.tup (js.map jt)):=by simp[Yr,iJ,hz]
 have l2:(D.lst .f (js.map jt)).lend=.lst .l (js.map jt):=by show D.lst .l (lends _)=_;rw[lnj]
 have l3:(D.tup (js.map jt)).lend=.tup (js.map jt):=by show D.tup (lends _)=_;rw[lnj]
 have i2:(D.lst .f (js.map jt)).imm=true:=by show ((Fl.f == .l || Fl.f == .f) && imms (js.map jt))=true;rw[iJ];rfl
 have i3:(D.tup (js.map jt)).imm=true:=iJ
 have g1:=fun o5=>JbG (dh:=.lst .f (js.map jt)) (by rw[l2];exact .l) pl2 i2 hj hl hjl A o5
 have g2:=fun o5=>JbG (dh:=.tup (js.map jt)) (by rw[l3];exact .t) pl3 i3 hj hl hjl A o5
 have fx:(D.tup [.lst .m (js.map jt),.tup (js.map jt)]).fix=.tup [.lst .f (js.map jt),.tup (js.map jt)]:=by
  show D.tup [.lst .f (fixs (js.map jt)),.tup (fixs (js.map jt))]=_
  rw[Jav (fun _=>rfl)]
 have i4:imms [D.lst .f (js.map jt),.tup (js.map jt)]=true:=by
  show ((D.lst .f (js.map jt)).imm && ((D.tup (js.map jt)).imm && true))=true
  rw[i2,i3];rfl
 generalize (hs js js.length).map nI=HH at *
 refine⟨some (.tup (js.map jt)),some (.lst .m (HH++[.int (-1)])),?_⟩
 have src:Ur (cFix (cTup (Jc (cL Yi (Jc (cVar 2) cNil)) (Jc (cL Yr (Jc (cVar 2) cNil)) cNil)))) (R13 A (.lst .l (ns.map D.str)) (.lst .l (js.map jt)) (some (.lst .m HH)) none none none none none none none)=.ok [.lst .f (js.map jt),.tup (js.map jt)] (R13 A (.lst .l (ns.map D.str)) (.lst .l (js.map jt)) (some (.lst .m HH)) none none none none none none none):=by
  unfold R13
  generalize js.map jt=JJ at *
  generalize ns.map D.str=NN at *
  simp[cFix,pl1,pt1,fx,i4]
 rw[e_sfor,src]
 show YF (gSet 4) YA _ _=_
 rw[Jcb (env1:=R13 A (.lst .l (ns.map D.str)) (.lst .l (js.map jt)) (some (.lst .m HH)) (some (.lst .f (js.map jt))) none none none none none none) (by rfl) (g1 none)]
 rw[Jcb (env1:=R13 A (.lst .l (ns.map D.str)) (.lst .l (js.map jt)) (some (.lst .m HH)) (some (.tup (js.map jt))) (some (.lst .m (HH++[.int (-1)]))) none none none none none) (by rfl) (g2 (some (.lst .m (HH++[.int (-1)]))))]
 rfl
theorem r13_cls (hj:JOk ns js) (nd:ns.Nodup) (hl:ns.length≤60) (A:D) (o3 o4 o5 o6:Option D) :
  ∃T:List D,(sAsg (UE (cLc (Ur (cVar 1)) [8] (gSet 8) cYes (cL Yr (Jc (cL Yn (Jc (Jo JK (aRo (cVar 2) (aRo (cVar 8) aNil))) cNil)) cNil)))) (gSet 7)) (R13 A (.lst .l (ns.map D.str)) (.lst .l (js.map jt)) o3 o4 o5 o6 none none none none)=.nx (R13 A (.lst .l (ns.map D.str)) (.lst .l (js.map jt)) o3 o4 o5 o6 (some (.lst .m T)) none none none)∧T.length+(hs js js.length).length=ns.length:=by
 have ex:∀n,∃R:List Str,n∈ns→(JK [.lst .l (js.map jt),.str n]=.ok (CD .m R) []∧R.Nodup∧(∀m∈R,m∈ns)∧∀m,m∈R↔Conn js n m):=fun n=>by
  by_cases h:n∈ns
  ·obtain⟨R,q⟩:=v_lclass hj (by omega) h
   exact⟨R,fun _=>q⟩
  ·exact⟨[],fun z=>absurd z h⟩
 obtain⟨r,hr⟩:=Classical.skolem.mp ex
 have rl:∀n∈ns,(r n).length≤100:=fun n hn=>by
  have:=Uo (hr n hn).2.1 (hr n hn).2.2.1
  omega
 have srt:∀n∈ns,Yn [CD .m (r n)]=some (.lst .m ((Yf (r n)).map D.str)):=fun n hn=>by
  have h1:=rl n hn
  have e:Yn [CD .m (r n)]=Yn [.lst .m ((r n).map D.str)]:=by
   unfold CD Yn
   simp only[Jc0,Jbu]
  rw[e];exact sortG_strs (by omega)
 have tpl:∀n∈ns,Yr [.lst .m ((Yf (r n)).map D.str)]=some (tupS (Yf (r n))):=fun n hn=>by
  have h1:=rl n hn
  have h2:=(YV (r n)).length_eq
  have hz:((Yf (r n)).map D.str).length≤sizeLine:=by rw[List.length_map];exact Ye (by omega)
  have hi:imms ((Yf (r n)).map D.str)=true:=by simp
  generalize hG:(Yf (r n)).map D.str=G at *
  show _=some (D.tup ((Yf (r n)).map D.str))
  rw[hG]
  simp[Yr,hi,hz]
 have lnj:=YC js
 have hc:=Jcs (f:=D.str) (vs:=[8]) (g:=gSet 8) (ce:=cL Yr (Jc (cL Yn (Jc (Jo JK (aRo (cVar 2) (aRo (cVar 8) aNil))) cNil)) cNil)) (env:=R13 A (.lst .l (ns.map D.str)) (.lst .l (js.map jt)) o3 o4 o5 o6 none none none none) (y:=fun n=>tupS (Yf (r n))) (xs:=ns) fun n hn=>by
  refine⟨(R13 A (.lst .l (ns.map D.str)) (.lst .l (js.map jt)) o3 o4 o5 o6 none none none none).set 8 (some (.str n)),rfl,rfl,?_,rfl⟩
  have h1:=(hr n hn).1
  have h2:=srt n hn
  have h3:=tpl n hn
  have h4:(CD .m (r n)).nol=true:=by
   show nols ((r n).map fun _=>D.bl true)=true
   exact Jac (fun _=>rfl) _
  generalize CD .m (r n)=C1 at *
  generalize (Yf (r n)).map D.str=C2 at *
  generalize tupS (Yf (r n))=C3 at *
  generalize js.map jt=JJ at *
  unfold R13;simp[lnj,h1,h2,h3,h4]
 have et:(ns.map fun n=>tupS (Yf (r n)))=(ns.map fun n=>Yf (r n)).map tupS:=by rw[List.map_map];rfl
 have cc:=cls_count hj nd (fun n=>Yf (r n)) fun a ha b hb=>by
  constructor
  ·intro e
   have h1:a∈Yf (r a):=(YV (r a)).mem_iff.mpr (((hr a ha).2.2.2 a).mpr (.refl a))
   rw[show Yf (r a)=Yf (r b) from e]at h1
   exact(((hr b hb).2.2.2 a).mp ((YV (r b)).mem_iff.mp h1)).symm
  ·intro c
   refine sortS_sameT (hr a ha).2.1 (hr b hb).2.1 fun x=>?_
   rw[(hr a ha).2.2.2,(hr b hb).2.2.2]
   exact⟨fun q=>c.symm.trans q,fun q=>c.trans q⟩
 have ne:((ns.map fun n=>Yf (r n)).all fun k=>!k.isEmpty)=true:=by
  rw[List.all_eq_true]
  intro k hk
  obtain⟨n,hn,rfl⟩:=List.mem_map.mp hk
  have h1:n∈Yf (r n):=(YV (r n)).mem_iff.mpr (((hr n hn).2.2.2 n).mpr (.refl n))
  cases hq:Yf (r n) with
  | nil=>rw[hq]at h1;cases h1
  | cons=>rfl
 have hkl:(ns.map fun n=>Yf (r n)).length=ns.length:=List.length_map _
 refine⟨(Ze (ddup (ns.map fun n=>Yf (r n)))).map tupS,?_,by rw[List.length_map,(ZI _).length_eq];exact cc⟩
 rw[et]at hc
 generalize (ns.map fun n=>Yf (r n))=kss at *
 have tm:=JaZ kss
 have hlt:kss.length < 64:=by omega
 have iN:imms (ns.map D.str)=true:=by simp
 have zN:(ns.map D.str).length≤sizeLine:=by rw[List.length_map];exact Ye (by omega)
 generalize kss.map tupS=KD at *
 generalize hO:(Ze (ddup kss)).map tupS=OUT at *
 have ne':∀x,x∈kss→¬ x=[]:=fun x hx e=>by have:=List.all_eq_true.mp ne x hx;rw[e]at this;cases this
 generalize cL Yr (Jc (cL Yn (Jc (Jo JK (aRo (cVar 2) (aRo (cVar 8) aNil))) cNil)) cNil)=CE1 at *
 generalize js.map jt=JJ at *
 generalize ns.map D.str=NN at *
 unfold R13 at *
 simp[iN,zN,hc,tm,hlt,ne',hO]
 rw[if_pos ne'];rfl
end
end VS
namespace VS
open PySem L2 SeqAt
section
variable {ns:List Str} {js:List Jn}
theorem r13_row (hj:JOk ns js) (hl:ns.length≤60) (hjl:js.length≤140) {B:Int} {c:List Int} {t:Int} (h:StO B c t) (hB:B≤900000) (o3 o4 o5:Option D) :
  ∃js' c' t',(sIf (cTt (c2 pNe (cVar 1) (cLst cNil))) (YN (cMut 6 kdL Yk (lVar 6) (Jc (cTup (Jc (cImm (cIdx (cVar 1) (Jo Jb (aOw (cMv 0) (some 0) (aRo (cL pLen (Jc (cVar 1) cNil)) aNil))))) (Jc (cImm (cIdx (cVar 1) (Jo Jb (aOw (cMv 0) (some 0) (aRo (cL pLen (Jc (cVar 1) cNil)) aNil))))) (Jc (cK (.int 0)) cNil)))) cNil))) sNil) (R13 (st c t) (.lst .l (ns.map D.str)) (.lst .l (js.map jt)) o3 o4 o5 (some (.lst .m (js.map jt))) none none none none)=.nx (R13 (st c' t') (.lst .l (ns.map D.str)) (.lst .l (js.map jt)) o3 o4 o5 (some (.lst .m (js'.map jt))) none none none none)∧JOk ns js'∧js'.length≤141∧StO (B+2) c' t':=by
 have hne:=ne_strs13 .l ns
 cases ns with
 | nil =>
  refine⟨js,c,t,if_f (env1:=R13 (st c t) (.lst .l (([]:List Str).map D.str)) (.lst .l (js.map jt)) o3 o4 o5 (some (.lst .m (js.map jt))) none none none none) ?_ rfl,hj,by omega,h.up (by omega)⟩
  generalize st c t=A0 at *
  generalize js.map jt=JJ at *
  simp only[List.map_nil,List.isEmpty_nil,Bool.not_true]at hne ⊢
  unfold R13;simp[hne]
 | cons n0 ns0 =>
  have hb:(!(n0::ns0).isEmpty)=true:=rfl
  rw[hb]at hne
  generalize hns:n0::ns0=ns at *
  have hpos:0 < ns.length:=by rw[←hns];simp
  obtain⟨r1,c1,e1,p1,q1,s1⟩:=JZ h (by omega) (m:=(ns.length:Nat)) (by omega) (by omega)
  obtain⟨r2,c2',e2,p2,q2,s2⟩:=JZ s1 (by omega) (m:=(ns.length:Nat)) (by omega) (by omega)
  obtain⟨x,mx,gx⟩:=ZB p1 q1
  obtain⟨y,my,gy⟩:=ZB p2 q2
  have hz:(js.map jt).length < sizeLine:=by rw[List.length_map];exact ZG (by omega)
  have hzn:(ns.map D.str).length=ns.length:=List.length_map _
  have ej:jt (x,y,0)=.tup [.str x,.str y,.int 0]:=rfl
  have em:(js++[(x,y,(0:Int))]).map jt=js.map jt++[.tup [.str x,.str y,.int 0]]:=by rw[List.map_append];rfl
  have happ:Yk (.lst .m (js.map jt)) [.tup [.str x,.str y,.int 0]]=some (.lst .m (js.map jt++[.tup [.str x,.str y,.int 0]]),.non):=by
   show (if (js.map jt).length < sizeLine then some (D.lst .m (js.map jt++[.tup [.str x,.str y,.int 0]]),D.non) else none)=_
   rw[if_pos hz]
  have i0:=JS c t
  have i1:=JS c1 (t+1)
  have n1:=JQ c1 (t+1)
  have n2:=JQ c2' (t+1+1)
  have k1:kdL (.lst .m (js.map jt))=true:=rfl
  refine⟨js++[(x,y,0)],c2',t+1+1,?_,hj.snoc mx my (by decide) (by decide),by simp;omega,s2.up (by omega)⟩
  rw[em]
  generalize st c t=A0 at *
  generalize st c1 (t+1)=A1 at *
  generalize st c2' (t+1+1)=A2 at *
  generalize js.map jt=JJ at *
  generalize ns.map D.str=NN at *
  refine if_t (env1:=R13 A0 (.lst .l NN) (.lst .l JJ) o3 o4 o5 (some (.lst .m JJ)) none none none none) (by unfold R13;simp[hne]) ?_
  unfold R13;simp[e1,e2,gx,gy,hzn,i0,i1,n1,n2,lVar,k1,happ]
theorem r13_turned (hj:JOk ns js) (hjl:js.length≤300) (A dn:D) (o3 o4 o5 o6 o7:Option D) :
  (sAsg (cLc (Ur (cVar 2)) [10,11,12] (Yt 3 (Ji (gSet 10) (Ji (gSet 11) (Ji (gSet 12) Yx)))) cYes (cTup (Jc (cGet 11) (Jc (cGet 10) (Jc (c1 pNeg (cVar 12)) cNil))))) (gSet 9)) (R13 A dn (.lst .l (js.map jt)) o3 o4 o5 o6 o7 none none none)=.nx (R13 A dn (.lst .l (js.map jt)) o3 o4 o5 o6 o7 (some (.lst .m ((js.map tnJ).map jt))) none none):=by
 have hc:=Jcs (f:=jt) (vs:=[10,11,12]) (g:=Yt 3 (Ji (gSet 10) (Ji (gSet 11) (Ji (gSet 12) Yx)))) (ce:=cTup (Jc (cGet 11) (Jc (cGet 10) (Jc (c1 pNeg (cVar 12)) cNil)))) (env:=R13 A dn (.lst .l (js.map jt)) o3 o4 o5 o6 o7 none none none) (y:=fun j=>jt (tnJ j)) (xs:=js) fun j hm=>by
  have h1:=hj.lo j hm
  have h2:=hj.hi j hm
  obtain⟨x,y,z⟩:=j
  simp only at h1 h2
  refine⟨(((R13 A dn (.lst .l (js.map jt)) o3 o4 o5 o6 o7 none none none).set 10 (some (.str x))).set 11 (some (.str y))).set 12 (some (.int z)),rfl,rfl,?_,rfl⟩
  have ej:jt (tnJ (x,y,z))=.tup [.str y,.str x,.int (-z)]:=rfl
  have b1:-18446744073709551616 < z:=by omega
  have b2:z < 18446744073709551616:=by omega
  rw[ej]
  generalize js.map jt=JJ at *
  unfold R13;simp[b1,b2]
 have em:(js.map fun j=>jt (tnJ j))=(js.map tnJ).map jt:=by rw[List.map_map];rfl
 rw[em]at hc
 have iJ:=UC js
 have zJ:(js.map jt).length≤sizeLine:=by rw[List.length_map];exact Ye (by omega)
 generalize (js.map tnJ).map jt=TT at *
 generalize js.map jt=JJ at *
 generalize cTup (Jc (cGet 11) (Jc (cGet 10) (Jc (c1 pNeg (cVar 12)) cNil)))=CE1 at *
 unfold R13 at *
 simp[iJ,zJ,hc]
theorem v_right13 (hj:JOk ns js) (nd:ns.Nodup) (hl:ns.length≤60) (hjl:js.length≤140) {B:Int} {c:List Int} {t:Int} (h:StO B c t) (hB:B≤800000) :
  ∃c' t',YI [st c t,.lst .l (ns.map D.str),.lst .l (js.map jt)]=.ok (.bl true) [st c' t']∧StO (B+3) c' t':=by
 obtain⟨o4,o5,hfor⟩:=r13_for hj (by omega) (by omega) (st c t)
 obtain⟨js',c1,t1,hrow,hj',hjl',s1⟩:=r13_row hj hl hjl h (by omega) (some (.lst .m ((hs js js.length).map nI))) o4 o5
 obtain⟨T,hcls,hT⟩:=r13_cls hj nd hl (st c1 t1) (some (.lst .m ((hs js js.length).map nI))) o4 o5 (some (.lst .m (js'.map jt)))
 have htn:=r13_turned hj (by omega) (st c1 t1) (.lst .l (ns.map D.str)) (some (.lst .m ((hs js js.length).map nI))) o4 o5 (some (.lst .m (js'.map jt))) (some (.lst .m T))
 obtain⟨r,c2',e2,p2,q2,s2⟩:=JZ s1 (by omega) (m:=(js.length:Nat)+1) (by omega) (by omega)
 have lnj:=YC js
 have lnj':=YC js'
 have lns:=ZP ns
 have vh:=Jaz hj (by omega) (by omega)
 have ve:=fun dn=>UO (dn:=dn) (.l:Hold jt js (.lst .l (js.map jt))) hj (by omega) (by omega)
 have vh':=Jaz hj' (by omega) (by omega)
 have ve':=fun dn=>UO (dn:=dn) (.l:Hold jt js' (.lst .l (js'.map jt))) hj' (by omega) (by omega)
 have vd:=fun dn=>UO (dn:=dn) (.l:Hold jt (js++js.map tnJ) (.lst .l ((js++js.map tnJ).map jt))) (hj.app13 hj.tn13) (by omega) (by simp;omega)
 have vd2:=fun dn=>UO (dn:=dn) (.l:Hold jt (js.map tnJ++js) (.lst .l ((js.map tnJ++js).map jt))) (hj.tn13.app13 hj) (by omega) (by simp;omega)
 have hrl:r.toNat≤js.length:=by omega
 have vc:=fun dn=>UO (dn:=dn) (.l:Hold jt (js.take r.toNat) (.lst .l ((js.take r.toNat).map jt))) (hj.sub13 fun j hm=>List.mem_of_mem_take hm) (by omega) (by rw[List.length_take];omega)
 rw[hs_doubled]at vd
 rw[hs_doubled2]at vd2
 rw[hs_cut hrl]at vc
 rw[List.map_append]at vd vd2
 rw[List.map_take]at vc
 have hHl:=Jdg js js.length
 have hlen:(((hs js js.length).map nI).length:Int)=(ns.length:Int) - (T.length:Nat):=by rw[List.length_map];omega
 have nn:=Zu (hs js js.length)
 have nn':=Zu (hs js' js'.length)
 have nnc:=Zu ((hs js js.length).filter fun i=>decide (i < r.toNat))
 have hne:=fun g g'=>Jbs (g:=g) (g':=g') (Qn 38 (hs js js.length))
 have hne':=fun g g'=>Jbs (g:=g) (g':=g') (Qn 38 (hs js' js'.length))
 have heq:=fun g g'=>eq_self (g:=g) (g':=g') (Qn 38 ((hs js js.length).filter fun i=>decide (i < r.toNat)))
 have hfl:=Jbf (f:=nI) (vs:=[14]) (g:=gSet 14) (ct:=cTt (c2 pLtG (cVar 14) (cVar 13))) (ce:=cGet 14) (env:=R13 (st c2' (t1+1)) (.lst .l (ns.map D.str)) (.lst .l (js.map jt)) (some (.lst .m ((hs js js.length).map nI))) o4 o5 (some (.lst .m (js'.map jt))) (some (.lst .m T)) (some (.lst .m ((js.map tnJ).map jt))) none (some (.int r))) (y:=nI) (t:=fun i=>decide (i < r.toNat)) (xs:=hs js js.length) fun i hi=>by
  refine⟨(R13 (st c2' (t1+1)) (.lst .l (ns.map D.str)) (.lst .l (js.map jt)) (some (.lst .m ((hs js js.length).map nI))) o4 o5 (some (.lst .m (js'.map jt))) (some (.lst .m T)) (some (.lst .m ((js.map tnJ).map jt))) none (some (.int r))).set 14 (some (nI i)),rfl,rfl,?_,fun _=>?_,rfl⟩
  ·have b1:((i:Nat):Int) < r↔i < r.toNat:=by omega
   unfold R13
   by_cases q:i < r.toNat
   ·simp[nI,q,b1.mpr q]
   ·have q':¬ ((i:Nat):Int) < r:=fun z=>q (b1.mp z)
    simp[nI,q,q']
  ·unfold R13;rfl
 have i1:=JS c1 t1
 have n2:=JQ c2' (t1+1)
 have iJ:=UC js
 have iT:=UC (js.map tnJ)
 have zJ:(js.map jt).length≤sizeLine:=by rw[List.length_map];exact Ye (by omega)
 have zT:(js.map jt).length+((js.map tnJ).map jt).length≤sizeLine:=by simp only[List.length_map];exact Ye (by omega)
 have zT2:((js.map tnJ).map jt).length+(js.map jt).length≤sizeLine:=by simp only[List.length_map];exact Ye (by omega)
 have iN:imms (ns.map D.str)=true:=by simp
 have zN:(ns.map D.str).length≤sizeLine:=by rw[List.length_map];exact Ye (by omega)
 have iNr:imms (ns.map D.str).reverse=true:=imms_rev (by simp)
 have hfx:fixs (ns.map D.str).reverse=(ns.map D.str).reverse:=by rw[←List.map_reverse];exact Jav (fun _=>rfl) _
 have zH:((hs js js.length).map nI).length≤sizeLine:=by rw[List.length_map];exact Ye (by omega)
 have iH:=imms_nI (hs js js.length)
 have lnd:lends (js.map jt++(js.map tnJ).map jt)=js.map jt++(js.map tnJ).map jt:=by rw[←List.map_append];exact YC _
 have lnd2:lends ((js.map tnJ).map jt++js.map jt)=(js.map tnJ).map jt++js.map jt:=by rw[←List.map_append];exact YC _
 have lnc:lends ((js.map jt).take r.toNat)=(js.map jt).take r.toNat:=by rw[←List.map_take];exact YC _
 have icut:imms ((js.map jt).take r.toNat)=true:=Us (List.take_sublist _ _) iJ
 have ecut:=cut_to (js.map jt) (k:=r) p2 (by rw[List.length_map];omega)
 have pl1:Yi [.lst .l (js.map jt)]=some (.lst .m (js.map jt)):=by simp[Yi,iJ,zJ]
 have pt1:Yr [.lst .l (ns.map D.str)]=some (.tup (ns.map D.str)):=by simp[Yr,iN,zN]
 have hnl:(ns.map D.str).length=ns.length:=List.length_map _
 have hjn:(js.map jt).length=js.length:=List.length_map _
 refine⟨c2',t1+1,?_,s2.up (by omega)⟩
 refine UN (env0:=R13 (st c t) (.lst .l (ns.map D.str)) (.lst .l (js.map jt)) none none none none none none none none) (env:=R13 (st c2' (t1+1)) (.lst .l (ns.map D.str)) (.lst .l (js.map jt)) (some (.lst .m ((hs js js.length).map nI))) o4 o5 (some (.lst .m (js'.map jt))) (some (.lst .m T)) (some (.lst .m ((js.map tnJ).map jt))) none (some (.int r))) ⟨rfl,by decide⟩ rfl ?_ (by rfl)
 unfold ZZ
 generalize st c t=A0 at *
 generalize st c1 t1=A1 at *
 generalize st c2' (t1+1)=A2 at *
 generalize hs js' js'.length=H2 at *
 generalize hCUT:(hs js js.length).filter (fun i=>decide (i < r.toNat))=HC at *
 generalize hs js js.length=H1 at *
 generalize (js.map tnJ).map jt=TT at *
 generalize js'.map jt=J2 at *
 generalize js.map jt=JJ at *
 generalize ns.map D.str=NN at *
 generalize H1.map nI=HH at *
 generalize H2.map nI=HH2 at *
 generalize HC.map nI=HHC at *
 refine Jh (env1:=R13 A0 (.lst .l NN) (.lst .l JJ) (some (.lst .m HH)) none none none none none none none) (by unfold R13;simp[lnj,vh,nn]) ?_
 refine Jh hfor ?_
 refine Jh (env1:=R13 A0 (.lst .l NN) (.lst .l JJ) (some (.lst .m HH)) o4 o5 (some (.lst .m JJ)) none none none none) (by unfold R13;simp[pl1]) ?_
 refine Jh (env1:=R13 A0 (.lst .l NN) (.lst .l JJ) (some (.lst .m HH)) o4 o5 (some (.lst .m JJ)) none none none none) (by unfold R13;simp[lnj,ve,nn,hne]) ?_
 refine Jh hrow ?_
 refine Jh (env1:=R13 A1 (.lst .l NN) (.lst .l JJ) (some (.lst .m HH)) o4 o5 (some (.lst .m J2)) none none none none) (by unfold R13;simp[lnj',ve',vh',nn',hne']) ?_
 refine Jh hcls ?_
 refine Jh (env1:=R13 A1 (.lst .l NN) (.lst .l JJ) (some (.lst .m HH)) o4 o5 (some (.lst .m J2)) (some (.lst .m T)) none none none) (by unfold R13;simp[hnl,hlen]) ?_
 refine Jh htn ?_
 refine Jh (env1:=R13 A1 (.lst .l NN) (.lst .l JJ) (some (.lst .m HH)) o4 o5 (some (.lst .m J2)) (some (.lst .m T)) (some (.lst .m TT)) none none) (by unfold R13;simp[pt1,iN,hfx,iNr,iJ,iT,zT,zT2,lnd,lnd2,vd,vd2,nn,hne]) ?_
 refine Jh (env1:=R13 A2 (.lst .l NN) (.lst .l JJ) (some (.lst .m HH)) o4 o5 (some (.lst .m J2)) (some (.lst .m T)) (some (.lst .m TT)) none (some (.int r))) (by unfold R13;simp[hjn,e2,i1,n2]) ?_
 generalize cTt (c2 pLtG (cVar 14) (cVar 13))=CT1 at *
 unfold R13 at *
 simp[iJ,ecut,icut,lnc,vc,nnc,iH,zH,hfl,heq]
end
theorem lgs_nd:lgs.Nodup:=by decide +kernel
def L13 (d0 A:D) (o2 o3 o4:Option D):Env:=[some d0,some A,o2,o3,o4]
theorem v_turn {B:Int} {c:List Int} {t:Int} (h:StO B c t) (hB:B≤10000) (d0:D) (z:Nat) (o3 o4:Option D) :
  ∃c' t' p3 p4,Ql (L13 d0 (st c t) (some (.int (z:Nat))) o3 o4)=.nx (L13 d0 (st c' t') (some (.int (z:Nat))) p3 p4)∧StO (B+1200) c' t':=by
 obtain⟨ns,c1',t1,e1,nb,s1⟩:=v_names h (by omega)
 obtain⟨js,cc,t2,e2,hj,hjl,s2⟩:=v_joinings s1 (by omega) nb.len
 have hnl:=nb.len
 have q0:=JS c t
 have q1:=JS c1' t1
 have q2:=JQ c1' t1
 have q3:=JQ cc t2
 have a1:(sAsg (Jo Yd (aOw (cMv 1) (some 1) aNil)) (gSet 3)) (L13 d0 (st c t) (some (.int (z:Nat))) o3 o4)=.nx (L13 d0 (st c1' t1) (some (.int (z:Nat))) (some (.lst .m (ns.map D.str))) o4):=by
  generalize st c t=A0 at *
  generalize st c1' t1=A1 at *
  unfold L13;simp[e1,q0,q2]
 have a2:(sAsg (Jo JV (aOw (cMv 1) (some 1) (aRo (cVar 3) aNil))) (gSet 4)) (L13 d0 (st c1' t1) (some (.int (z:Nat))) (some (.lst .m (ns.map D.str))) o4)=.nx (L13 d0 (st cc t2) (some (.int (z:Nat))) (some (.lst .m (ns.map D.str))) (some (.lst .m (js.map jt)))):=by
  generalize st c1' t1=A1 at *
  generalize st cc t2=A2 at *
  unfold L13;simp[e2,q1,q3]
 have fin:∀{ns':List Str} {js':List Jn} {c':List Int} {t':Int},ns'.length≤60→ns'.Nodup→JOk ns' js'→js'.length≤140→StO (B+1150) c' t'→(sIf (Jco (cTt (c2 pEq (cVar 2) (cK (.int 0)))) (cTt (c2 pEq (Jo Jb (aOw (cMv 1) (some 1) (aRo (cK (.int 16)) aNil))) (cK (.int 0))))) (sAsg (Jo YE (aOw (cMv 1) (some 1) (aRo (cK (.int 60)) aNil))) (Yt 2 (Ji (gSet 3) (Ji (gSet 4) Yx)))) sNil) (L13 d0 (st cc t2) (some (.int (z:Nat))) (some (.lst .m (ns.map D.str))) (some (.lst .m (js.map jt))))=.nx (L13 d0 (st c' t') (some (.int (z:Nat))) (some (.lst .m (ns'.map D.str))) (some (.lst .m (js'.map jt)))) →
   ∃c' t' p3 p4,Ql (L13 d0 (st c t) (some (.int (z:Nat))) o3 o4)=.nx (L13 d0 (st c' t') (some (.int (z:Nat))) p3 p4)∧StO (B+1200) c' t':=fun {ns'} {js'} {c'} {t'} h1 hnd h2 h3 h4 h5=>by
  obtain⟨c4,t4,g1,g2⟩:=v_right13 h2 hnd h1 h3 h4 (by omega)
  refine⟨c4,t4,some (.lst .m (ns'.map D.str)),some (.lst .m (js'.map jt)),?_,g2.up (by omega)⟩
  have i5:=JS c' t'
  have n6:=JQ c4 t4
  have lns:=ZP ns'
  have lnj:=YC js'
  unfold Ql
  refine Jh a1 (Jh a2 (Jh h5 ?_))
  generalize st c' t'=A5 at *
  generalize st c4 t4=A6 at *
  generalize ns'.map D.str=NN at *
  generalize js'.map jt=JJ at *
  unfold L13;simp[lns,lnj,g1,i5,n6]
 by_cases hz:z=0
 ·subst hz
  obtain⟨r3,c3,e3,p3,q3',s3⟩:=JZ s2 (by omega) (m:=16) (by decide) (by decide)
  have i2:=JS cc t2
  have n3:=JQ c3 (t2+1)
  by_cases h0:r3=0
  ·obtain⟨js',c4,t4,e4,hj4,hjl4,s4⟩:=v_long s3 (by omega) (m:=60) (by decide) (by decide)
   have i3:=JS c3 (t2+1)
   have n4:=JQ c4 t4
   refine fin (ns':=lgs) (js':=js') (c':=c4) (t':=t4) (by rw[JcG];omega) lgs_nd hj4 (by rw[hjl4];decide) (s4.up (by omega)) ?_
   have nls:=JaJ lgs
   have nlj:=Jb3 js'
   generalize st cc t2=A2 at *
   generalize st c3 (t2+1)=A3 at *
   generalize st c4 t4=A4 at *
   refine if_t (env1:=L13 d0 A3 (some (.int ((0:Nat):Int))) (some (.lst .m (ns.map D.str))) (some (.lst .m (js.map jt)))) (by unfold L13;simp[e3,i2,n3,h0]) ?_
   unfold L13
   generalize lgs.map D.str=LL at *
   generalize js'.map jt=JJ at *
   simp[e4,i3,n4,nls,nlj]
  ·refine fin (ns':=ns) (js':=js) (c':=c3) (t':=t2+1) (by omega) nb.nd hj (by omega) (s3.up (by omega)) ?_
   generalize st cc t2=A2 at *
   generalize st c3 (t2+1)=A3 at *
   exact if_f (env1:=L13 d0 A3 (some (.int ((0:Nat):Int))) (some (.lst .m (ns.map D.str))) (some (.lst .m (js.map jt)))) (by unfold L13;simp[e3,i2,n3,h0]) rfl
 ·refine fin (ns':=ns) (js':=js) (c':=cc) (t':=t2) (by omega) nb.nd hj (by omega) (s2.up (by omega)) ?_
  generalize st cc t2=A2 at *
  exact if_f (env1:=L13 d0 A2 (some (.int (z:Nat))) (some (.lst .m (ns.map D.str))) (some (.lst .m (js.map jt)))) (by unfold L13;simp[hz]) rfl
theorem v_law (ns:List Int) (h:ns.length≤63):JcX [.lst .l (ns.map D.int)]=.ok (.bl true) []:=by
 obtain⟨c,e1,s1⟩:=v_begin ns
 obtain⟨r,c1,e2,p1,p2,s2⟩:=JZ s1 (by omega) (m:=3) (by decide) (by decide)
 have hr:=Jcy (1+r) (by omega) (by omega)
 obtain⟨env',f1,m,c2',t2,p3,p4,o2,hm,rfl,s3⟩:=UY (f:=fun i:Nat=>D.int (i:Nat)) (g:=gSet 2) (body:=Ql)
  (fun rest env=>∃m c t p3 p4 o2,m+rest.length=(1+r).toNat∧env=L13 (.lst .l (ns.map D.int)) (st c t) o2 p3 p4∧StO (1+1200 * (m:Nat)) c t)
  (fun x rest env ⟨m,c,t,p3,p4,o2,hm,e,q⟩=>by
   simp only[List.length_cons]at hm
   obtain⟨c',t',p3',p4',g1,g2⟩:=v_turn q (by omega) (.lst .l (ns.map D.int)) x p3 p4
   exact⟨_,_,by rw[e];rfl,g1,m+1,c',t',p3',p4',_,by omega,rfl,g2.up (by push_cast;omega)⟩)
  (List.range (1+r).toNat) (L13 (.lst .l (ns.map D.int)) (st c1 (0+1)) none none none) ⟨0,c1,0+1,none,none,none,by simp,rfl,s2.up (by omega)⟩
 have i0:=JS c 0
 have n0:=JQ c 0
 have n1:=JQ c1 (0+1)
 have li:=JaF ns
 refine UN (env0:=[some (.lst .l (ns.map D.int)),none,none,none,none]) (env:=L13 (.lst .l (ns.map D.int)) (st c2' t2) o2 p3 p4) ⟨rfl,by decide⟩ rfl ?_ (by rfl)
 unfold JdC
 generalize hR:((List.range (1+r).toNat).map fun i:Nat=>D.int (i:Nat))=RR at *
 generalize st c 0=A0 at *
 generalize st c1 (0+1)=A1 at *
 generalize st c2' t2=A2 at *
 refine Jh (env1:=L13 (.lst .l (ns.map D.int)) A0 none none none) (by unfold L13;generalize ns.map D.int=NI at *;simp[li,e1,n0]) ?_
 refine Jh (env1:=L13 (.lst .l (ns.map D.int)) A2 o2 p3 p4) ?_ (by unfold L13;simp)
 have b1:(1:Int)+r < 2 ^ 62:=by omega
 generalize ns.map D.int=NI at *
 unfold L13 at *
 simp[e2,i0,n1,hr,f1]
end VS
namespace VS
open PySem L2 SeqAt PySem.Spec PyProof.Rows
theorem endZ {w:World} {mg:Str→Option Value} {fa:Addr} {h:Heap} (Y:hkZ.says w h) (G:h.Ns mainGlobals mg) (hfa:mg "law" = some (.ref fa)) :
  ∃K:PySem.W.Frag,K.In h∧∃fd:FuncData,(∀(s:Shared) (v:Value),BindsTo s fd ⟨[v],[]⟩ [("_law_script", v)])∧∀base:Heap,K.In base→base.Ns mainGlobals mg→FnG PySem.Challenge.rw_joinback_k13_eldest.prog w K mg base 5 fa fd ["_law_script"] (JbF K):=by
 obtain⟨K,X,cZ⟩:=Y
 have c1:∀b∈(obZ K).1,b=true:=by rw[cZ];simp[valZ]
 have q0:(qz0 K).all id=true:=c1 _ (List.mem_of_getElem? (i:=0) rfl)
 have q1:(qz1 K).all id=true:=c1 _ (List.mem_of_getElem? (i:=1) rfl)
 have e0:(cz0 K).all id=true:=c1 _ (List.mem_of_getElem? (i:=2) rfl)
 have c2:(obZ K).2.1=(valZ w).2.1:=by rw[cZ]
 have c3:(obZ K).2.2=(valZ w).2.2:=by rw[cZ]
 obtain⟨oc1,od1,sl1,kV1,dc1,pm1,an1,cd1,ct1,l1,k1⟩:=Uf (d:=Jdz) c2 0 rfl rfl (YX e0 0 rfl)
 obtain⟨oc2,od2,sl2,kV2,dc2,pm2,an2,cd2,ct2,l2,k2⟩:=Uf (d:=Jdp) c2 1 rfl rfl (YX e0 1 rfl)
 obtain⟨oc3,od3,sl3,kV3,dc3,pm3,an3,cd3,ct3,l3,k3⟩:=Uf (d:=Jdo) c2 2 rfl rfl (YX e0 2 rfl)
 obtain⟨oc4,od4,sl4,kV4,dc4,pm4,an4,cd4,ct4,l4,k4⟩:=Uf (d:=Jdr) c2 3 rfl rfl (YX e0 3 rfl)
 obtain⟨oc5,od5,sl5,kV5,dc5,pm5,an5,cd5,ct5,l5,k5⟩:=Uf (d:=Jdm) c2 4 rfl rfl (YX e0 4 rfl)
 obtain⟨oc6,od6,sl6,kV6,dc6,pm6,an6,cd6,ct6,l6,k6⟩:=Uf (d:=JdD) c2 5 rfl rfl (YX e0 5 rfl)
 obtain⟨oc7,od7,sl7,kV7,dc7,pm7,an7,cd7,ct7,l7,k7⟩:=Uf (d:=Jdk) c2 6 rfl rfl (YX e0 6 rfl)
 obtain⟨oc8,od8,sl8,kV8,dc8,pm8,an8,cd8,ct8,l8,k8⟩:=Uf (d:=Jdw) c2 7 rfl rfl (YX e0 7 rfl)
 obtain⟨oc9,od9,sl9,kV9,dc9,pm9,an9,cd9,ct9,l9,k9⟩:=Uf (d:=Jdx) c2 8 rfl rfl (YX e0 8 rfl)
 obtain⟨oc10,od10,sl10,kV10,dc10,pm10,an10,cd10,ct10,l10,k10⟩:=Uf (d:=Jc6) c2 9 rfl rfl (YX e0 9 rfl)
 obtain⟨oc11,od11,sl11,kV11,dc11,pm11,an11,cd11,ct11,l11,k11⟩:=Uf (d:=JcT) c2 10 rfl rfl (YX e0 10 rfl)
 obtain⟨oc12,od12,sl12,kV12,dc12,pm12,an12,cd12,ct12,l12,k12⟩:=Uf (d:=JcU) c2 11 rfl rfl (YX e0 11 rfl)
 have a1:=Jz q0 0 rfl
 have p1:=Jz q0 1 rfl
 have a2:=Jz q0 2 rfl
 have p2:=Jz q0 3 rfl
 have a3:=Jz q0 4 rfl
 have p3:=Jz q0 5 rfl
 have a4:=Jz q0 6 rfl
 have p4:=Jz q0 7 rfl
 have a5:=Jz q0 8 rfl
 have p5:=Jz q0 9 rfl
 have a6:=Jz q0 10 rfl
 have p6:=Jz q0 11 rfl
 have a7:=Jz q0 12 rfl
 have p7:=Jz q0 13 rfl
 have a8:=Jz q0 14 rfl
 have p8:=Jz q0 15 rfl
 have a9:=Jz q0 16 rfl
 have p9:=Jz q0 17 rfl
 have a10:=Jz q0 18 rfl
 have p10:=Jz q0 19 rfl
 have a11:=Jz q0 20 rfl
 have p11:=Jz q0 21 rfl
 have a12:=Jz q0 22 rfl
 have p12:=Jz q0 23 rfl
 have w_list:=Jz q0 24 rfl
 have w_len:=Jz q0 25 rfl
 have w_divmod:=Jz q0 26 rfl
 have w_range:=Jz q0 27 rfl
 have w_int:=Jz q0 28 rfl
 have w_min:=Jz q0 29 rfl
 have w_enumerate:=Jz q1 0 rfl
 have w_tuple:=Jz q1 1 rfl
 have w_repr:=Jz q1 2 rfl
 have w_sorted:=Jz q1 3 rfl
 have w_set:=Jz q1 4 rfl
 have w_reversed:=Jz q1 5 rfl
 refine⟨K,X,?_⟩
 have e:=hfa.symm.trans (PySem.W.mg_of X G a12)
 cases e
 have F1:=fun_mk (st:=JN) l1 k1 p1
 have b1:=F1.binds (ps:=["_law_script"]) fun _ _ _ _ _ _ us hl=>match us,hl with | [_],_=>rfl
 have F2:=fun_mk (st:=JT) l2 k2 p2
 have b2:=F2.binds (ps:=["_law_state", "_law_many"]) fun _ _ _ _ _ _ us hl=>match us,hl with | [_,_],_=>rfl
 have F3:=fun_mk (st:=JP) l3 k3 p3
 have b3:=F3.binds (ps:=["_law_state"]) fun _ _ _ _ _ _ us hl=>match us,hl with | [_],_=>rfl
 have F4:=fun_mk (st:=Jr) l4 k4 p4
 have b4:=F4.binds (ps:=["_law_state", "_law_names_here"]) fun _ _ _ _ _ _ us hl=>match us,hl with | [_,_],_=>rfl
 have F5:=fun_mk (st:=JR) l5 k5 p5
 have b5:=F5.binds (ps:=["_law_state", "_law_many"]) fun _ _ _ _ _ _ us hl=>match us,hl with | [_,_],_=>rfl
 have F6:=fun_mk (st:=JC) l6 k6 p6
 have b6:=F6.binds (ps:=["_law_joinings_here"]) fun _ _ _ _ _ _ us hl=>match us,hl with | [_],_=>rfl
 have F7:=fun_mk (st:=Yq) l7 k7 p7
 have b7:=F7.binds (ps:=["heads", "name"]) fun _ _ _ _ _ _ us hl=>match us,hl with | [_,_],_=>rfl
 have F8:=fun_mk (st:=JM) l8 k8 p8
 have b8:=F8.binds (ps:=["joinings"]) fun _ _ _ _ _ _ us hl=>match us,hl with | [_],_=>rfl
 have F9:=fun_mk (st:=YJ) l9 k9 p9
 have b9:=F9.binds (ps:=["names", "joinings"]) fun _ _ _ _ _ _ us hl=>match us,hl with | [_,_],_=>rfl
 have F10:=fun_mk (st:=JO) l10 k10 p10
 have b10:=F10.binds (ps:=["_law_joinings_here", "_law_name"]) fun _ _ _ _ _ _ us hl=>match us,hl with | [_,_],_=>rfl
 have F11:=fun_mk (st:=Jy) l11 k11 p11
 have b11:=F11.binds (ps:=["_law_state", "_law_names_here", "_law_joinings_here"]) fun _ _ _ _ _ _ us hl=>match us,hl with | [_,_,_],_=>rfl
 have F12:=fun_mk (st:=Ux) l12 k12 p12
 have z_list:=PySem.W.mg_none_of X G w_list
 have z_len:=PySem.W.mg_none_of X G w_len
 have z_divmod:=PySem.W.mg_none_of X G w_divmod
 have z_range:=PySem.W.mg_none_of X G w_range
 have z_int:=PySem.W.mg_none_of X G w_int
 have z_min:=PySem.W.mg_none_of X G w_min
 have z_enumerate:=PySem.W.mg_none_of X G w_enumerate
 have z_tuple:=PySem.W.mg_none_of X G w_tuple
 have z_repr:=PySem.W.mg_none_of X G w_repr
 have z_sorted:=PySem.W.mg_none_of X G w_sorted
 have z_set:=PySem.W.mg_none_of X G w_set
 have z_reversed:=PySem.W.mg_none_of X G w_reversed
 refine⟨PySem.W.fnOf "law" "law" (defArgs Ux) (defBody Ux) (defScope Ux) .none kV12 dc12 pm12 an12 cd12 ct12,fun s v=>.of_eq rfl,fun base _ _=>?_⟩
 have d__law_begin:Fd PySem.Challenge.rw_joinback_k13_eldest.prog w K mg base 1 "_law_begin" ["_law_script"] [false] YG:=ZE F1 (PySem.W.mg_of X G a1) b1 (ok__law_begin F1 z_list)
 have d__law_take:Fd PySem.Challenge.rw_joinback_k13_eldest.prog w K mg base 1 "_law_take" ["_law_state", "_law_many"] [true,false] Jb:=ZE F2 (PySem.W.mg_of X G a2) b2 (ok__law_take F2 z_len z_divmod)
 have d__law_names:Fd PySem.Challenge.rw_joinback_k13_eldest.prog w K mg base 2 "_law_names" ["_law_state"] [true] Yd:=ZE F3 (PySem.W.mg_of X G a3) b3 (ok__law_names F3 z_len d__law_take)
 have d__law_joinings:Fd PySem.Challenge.rw_joinback_k13_eldest.prog w K mg base 2 "_law_joinings" ["_law_state", "_law_names_here"] [true,false] JV:=ZE F4 (PySem.W.mg_of X G a4) b4 (ok__law_joinings F4 z_len z_range d__law_take)
 have d__law_long:Fd PySem.Challenge.rw_joinback_k13_eldest.prog w K mg base 2 "_law_long" ["_law_state", "_law_many"] [true,false] YE:=ZE F5 (PySem.W.mg_of X G a5) b5 (ok__law_long F5 z_range z_int z_min d__law_take)
 have d__law_holding:Fd PySem.Challenge.rw_joinback_k13_eldest.prog w K mg base 1 "_law_holding" ["_law_joinings_here"] [false] Ya:=ZE F6 (PySem.W.mg_of X G a6) b6 (ok__law_holding F6 z_enumerate)
 have d_head_of:Fd PySem.Challenge.rw_joinback_k13_eldest.prog w K mg base 1 "head_of" ["heads", "name"] [false,false] YY:=ZE F7 (PySem.W.mg_of X G a7) b7 (ok_head_of F7 )
 have d_holding_of:Fd PySem.Challenge.rw_joinback_k13_eldest.prog w K mg base 2 "holding_of" ["joinings"] [false] YH:=ZE F8 (PySem.W.mg_of X G a8) b8 (ok_holding_of F8 z_enumerate d_head_of)
 have d_eldest:Fd PySem.Challenge.rw_joinback_k13_eldest.prog w K mg base 3 "eldest" ["names", "joinings"] [false,false] Yp:=ZE F9 (PySem.W.mg_of X G a9) b9 (ok_eldest F9 d_holding_of)
 have d__law_class:Fd PySem.Challenge.rw_joinback_k13_eldest.prog w K mg base 1 "_law_class" ["_law_joinings_here", "_law_name"] [false,false] JK:=ZE F10 (PySem.W.mg_of X G a10) b10 (ok__law_class F10 )
 have d__law_right:FdG PySem.Challenge.rw_joinback_k13_eldest.prog w K mg base 4 "_law_right" ["_law_state", "_law_names_here", "_law_joinings_here"] [true,false,false] YI:=fdg_mk F11 (PySem.W.mg_of X G a11) b11 (ok__law_right F11 z_list z_tuple z_repr z_len z_sorted z_set z_reversed d__law_holding d_eldest d__law_take d__law_class)
 exact law_impG (ok_law F12 z_range d__law_begin d__law_take d__law_names d__law_joinings d__law_long d__law_right) fun ns h1 h2=>v_law ns h1
end VS
open PySem PySem.W PyProof.Rows
set_option maxRecDepth 100000 in
set_option maxHeartbeats 0 in
theorem PySem.Challenge.cw_joinback_k13_eldest_holds : PySem.Challenge.rw_joinback_k13_eldest.Holds := by
 w_on;o_law
 refine HandSHeadRun.head_any (r:=PySem.W.OpenLaw.row PySem.Challenge.rw_joinback_k13_eldest) (q:=VS.qvZ) (H:=VS.hkZ) (ob:=VS.obT VS.asZ VS.obZ) (M:=6000) (loose:=VS.loZ) (d:=HandSHeadRun.topDef VS.RZ.prog 13) (kwd:=[]) (fun s=>VS.obT_eq s) (by kernel_rfl) (fun s=>by kernel_rfl) VS.runZ (by kernel_rfl) (by kernel_rfl) (by kernel_rfl) (by rfl) (by first | assumption | decide +kernel) (by decide +kernel) ⟨rfl,rfl,rfl,rfl,rfl,by decide +kernel⟩ ?hw ?hc
 case hw=>w_witness2
 case hc =>
  refine VS.walkGE (l:=PySem.Challenge.rw_joinback_k13_eldest) (k:=5) (x := "_law_script") rfl (by kernel_rfl) ⟨rfl,by decide,by decide⟩ ?F
  case F =>
   intro w mg fa h Y G hmg0
   have hmg:mg ("law" : PySem.Str)=some (.ref fa):=by
    have e:(HandSHeadRun.topDef VS.RZ.prog 13).name=("law" : PySem.Str):=by kernel_rfl
    rw[←e]
    exact hmg0
   exact VS.endZ Y G hmg

