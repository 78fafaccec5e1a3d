import PyProof.Rows.All
import Wide.All
import OpenK.AllK
import Wide.FinOn
import HandS.ForMost
import HandS.Walk
import HandS.Exc
import HandS.Wide
import HandS.IsInst
import HandS.TupAny
import HandS.TupLe
import HandS.ExcOwn
import HandS.WordsExc
import HandS.EndBits
import HandS.SortInts
import HandS.Zip
import HandS.Style
import HandS.MapJoin
import HandS.SetKeys
import HandS.More
import KE.SortData
import KE.DataMinMax
import KE.DataCmp
import KE.KDictList
import HandS.WideBits
import KE.GoesMore
import HandS.Conv
import PyProof.ReprRoads
import HandS.RaiseMore
import HandS.SortKw
import HandS.SetFor
import HandS.Strs
import PyProof.CallStr
import KE.KDictPairs
import KE.KStateDown
import HandS.Head0
import HandS.Head1
import HandS.Head2
import HandS.HeadHook1
import HandS.HeadHook4
import PySem.Challenge.RW_joinback_k07_numbers_shown
set_option Elab.async false
set_option linter.all false
set_option maxRecDepth 100000
set_option maxHeartbeats 0
namespace VS
open PySem L2
inductive Fl where | m | l | f | k
deriving DecidableEq
inductive D where
 | non
 | bl (b:Bool)
 | int (i:Int)
 | str (s:Str)
 | ty (n:String)
 | tup (ds:List D)
 | lst (g:Fl) (ds:List D)
 | dct (g:Fl) (ks:List Key) (ds:List D)
 | obj (g:Fl) (c:Str) (ns:List Str) (ds:List D)
 | exc (c:Str) (ns:List Str) (ds:List D)
 | ftu (ds:List D)
abbrev Env:=List (Option D)
abbrev FPs:=List (List Addr)
structure Ctx where
 K:PySem.W.Frag
 mg:Str→Option Value
 H0:Hp
 A:List Addr
 Lk:List Addr
def Mutb:HO→Prop
 | .lst _=>True
 | .dK _=>True
 | .ins _ _ _=>True
 | _=>False
def Hard:HO→Prop
 | .ext _=>True
 | .xd _=>True
 | _=>False
theorem Hard.nm {u:HO} (h:Hard u) (m:Mutb u):False:=by cases u<;>simp_all [Hard,Mutb]
structure Mono (H H':Hp):Prop where
 t:∀a xs,H a=some (.tup xs)→H' a=some (.tup xs)
 z:∀a o u,H a=some (.frz o u)→H' a=some (.frz o u)
 x:∀a o,Hard o→H a=some o→H' a=some o
theorem Mono.refl (H:Hp):Mono H H:=⟨fun _ _ h=>h,fun _ _ _ h=>h,fun _ _ _ h=>h⟩
theorem Mono.trans {H H1 H2:Hp} (a:Mono H H1) (b:Mono H1 H2):Mono H H2:=⟨fun x y h=>b.t x y (a.t x y h),fun x y z h=>b.z x y z (a.z x y z h),fun x o k h=>b.x x o k (a.x x o k h)⟩
theorem Mono.upd {H:Hp} {a:Addr} {u o:HO} (h:H a=some u) (mu:Mutb u):Mono H (upd H a o):=by
 refine⟨?_,?_,fun b w hw e=>?_⟩
 ·intro b xs e
  have:b≠a:=by rintro rfl;rw[h]at e;cases e;exact mu
  rw[upd_ne this];exact e
 ·intro b x y e
  have:b≠a:=by rintro rfl;rw[h]at e;cases e;exact mu
  rw[upd_ne this];exact e
 ·have:b≠a:=by rintro rfl;rw[h]at e;cases e;exact hw.nm mu
  rw[upd_ne this];exact e
theorem Mono.new {H:Hp} {a:Addr} {o:HO} (h:H a=none):Mono H (L2.upd H a o):=by
 refine⟨?_,?_,fun b w _ e=>by rw[upd_ne (ne_of_none e h)];exact e⟩
 ·intro b xs e
  rw[upd_ne (ne_of_none e h)];exact e
 ·intro b x y e
  rw[upd_ne (ne_of_none e h)];exact e
def KL (K:PySem.W.Frag) (a:Addr) (xs:List V):Prop :=
 ∃(o:Obj) (its:Array Value) (n:Nat),K.lookup a=some o∧o.cls=.type "list" ∧ o.dict=none∧o.data=.seq its n∧its.size≤sizeLine∧Vals xs its.toList
def RdK (K:PySem.W.Frag) (H:Hp) (a:Addr) (u:HO):Prop:=Rd H a u∨∃xs,u=.lst xs∧KL K a xs
theorem RdK.sql {K H a xs} (h:RdK K H a (.lst xs)):SqL K H a xs:=by
 rcases h with h | ⟨ys,e,h⟩
 ·exact .inl h
 ·cases e;exact .inr h
theorem RdK.rd {K H a u} (h:RdK K H a u) (n:∀xs,u≠.lst xs):Rd H a u:=by
 rcases h with h | ⟨ys,e,h⟩
 ·exact h
 ·exact absurd e (n ys)
def Nd (C:Ctx) (H:Hp):Fl→Addr→HO→List Addr→Prop
 | .m,a,u,fp=>H a=some u∧fp=[a]
 | .l,a,u,fp=>((Rd C.H0 a u∧a∉C.A)∨∃xs,u=.lst xs∧KL C.K a xs)∧fp=[]
 | .f,a,u,fp=>(∃o,H a=some (.frz o u))∧a∉C.Lk∧fp=[]
 | .k,a,u,fp=>(∃o,H a=some (.frz o u))∧fp=[]
def ExP (a:Addr) (cls:Value) (d:Option Addr):HO:=.ext fun h=>∃(oe:Obj) (vs:Array Value),h.get? a=some oe∧Zc cls d oe∧oe.data=.fields vs
def XdAt (H:Hp):Option Addr→List (Str × V)→Prop
 | none,fs=>fs=[]
 | some da,fs=>H da=some (.xd fs)
theorem XdAt.mono {H H':Hp} (m:Mono H H'):∀{d:Option Addr} {fs:List (Str × V)},XdAt H d fs→XdAt H' d fs
 | none,_,h=>h
 | some _,_,h=>m.x _ _ trivial h
def FT (H:Hp) (a:Addr) (vs:List V):Prop:=∃o,H a=some (.frz o (.tup vs))∧o.dict=none
theorem FT.keep {H H':Hp} {a:Addr} {vs:List V} (h:FT H a vs) (hm:Mono H H'):FT H' a vs:=let ⟨o,e,q⟩:=h;⟨o,hm.z _ _ _ e,q⟩
theorem FT.sqt {K:PySem.W.Frag} {H:Hp} {a:Addr} {vs:List V} (h:FT H a vs):SqT K H a vs:=let ⟨o,e,_⟩:=h;.inl (.inr ⟨o,e⟩)
def Jcw (C:Ctx) (c:Str) (Ca:Addr):Prop:=C.mg c=some (.ref Ca)
mutual
def Rep (C:Ctx) (H:Hp):D→V→List Addr→Prop
 | .non,v,fp=>v=.non∧fp=[]
 | .bl b,v,fp=>v=.bl b∧fp=[]
 | .int i,v,fp=>v=.int i∧fp=[]
 | .str s,v,fp=>v=.str s∧fp=[]
 | .ty s,v,fp=>v=.ty s∧fp=[]
 | .tup ds,v,fp=>∃a vs,v=.ref a∧SqT C.K H a vs∧Reps C H ds vs fp
 | .ftu ds,v,fp=>∃a vs,v=.ref a∧FT H a vs∧Reps C H ds vs fp
 | .lst g ds,v,fp=>∃a vs f1 f2,v=.ref a∧Nd C H g a (.lst vs) f1∧Reps C H ds vs f2∧(g=.m∨f2=[])∧fp=f1++f2
 | .dct g ks ds,v,fp=>∃a kvs f1 f2,v=.ref a∧Nd C H g a (.dK kvs) f1∧(kvs.map (·.1)=ks∧ks.Nodup)∧Reps C H ds (kvs.map (·.2)) f2∧(g=.m∨f2=[])∧fp=f1++f2
 | .obj g c ns ds,v,fp=>∃a Ca dx fs f1 f2,v=.ref a∧Jcw C c Ca∧Nd C H g a (.ins Ca dx fs) f1∧fs.map (·.1)=ns∧Reps C H ds (fs.map (·.2)) f2∧(g=.m∨f2=[])∧fp=f1++f2
 | .exc c ns ds,v,fp=>∃a Ca d fs,v=.ref a∧Jcw C c Ca∧H a=some (ExP a (.ref Ca) d)∧XdAt H d fs∧fs.map (·.1)=ns∧Reps C H ds (fs.map (·.2)) []∧fp=[]
def Reps (C:Ctx) (H:Hp):List D→List V→List Addr→Prop
 | [],vs,fp=>vs=[]∧fp=[]
 | d::ds,vs,fp=>∃v vs' f1 f2,vs=v::vs'∧Rep C H d v f1∧Reps C H ds vs' f2∧fp=f1++f2
end
mutual
def D.imm:D→Bool
 | .tup ds=>imms ds
 | .ftu ds=>imms ds
 | .lst g ds=>(g == .l || g == .f) && imms ds
 | .dct g _ ds=>(g == .l || g == .f) && imms ds
 | .obj g _ _ ds=>(g == .l || g == .f) && imms ds
 | _=>true
def imms:List D→Bool
 | []=>true
 | d::ds=>d.imm && imms ds
end
mutual
def D.nol:D→Bool
 | .tup ds=>nols ds
 | .ftu ds=>nols ds
 | .lst g ds=>(g == .m || g == .f) && nols ds
 | .dct g _ ds=>(g == .m || g == .f) && nols ds
 | .obj g _ _ ds=>(g == .m || g == .f) && nols ds
 | .exc _ _ ds=>nols ds
 | _=>true
def nols:List D→Bool
 | []=>true
 | d::ds=>d.nol && nols ds
end
def Fl.lend:Fl→Fl:=fun _=>.l
def Fl.fix:Fl→Fl
 | .m=>.f
 | g=>g
mutual
def D.lend:D→D
 | .tup ds=>.tup (lends ds)
 | .ftu ds=>.ftu (lends ds)
 | .lst g ds=>.lst g.lend (lends ds)
 | .dct g ks ds=>.dct g.lend ks (lends ds)
 | .obj g c ns ds=>.obj g.lend c ns (lends ds)
 | d=>d
def lends:List D→List D
 | []=>[]
 | d::ds=>d.lend::lends ds
end
mutual
def D.fix:D→D
 | .tup ds=>.tup (fixs ds)
 | .ftu ds=>.ftu (fixs ds)
 | .lst g ds=>.lst g.fix (fixs ds)
 | .dct g ks ds=>.dct g.fix ks (fixs ds)
 | .obj g c ns ds=>.obj g.fix c ns (fixs ds)
 | d=>d
def fixs:List D→List D
 | []=>[]
 | d::ds=>d.fix::fixs ds
end
section
variable {C:Ctx} {H H':Hp}
theorem Nd.keep {g a u fp} (n:Nd C H g a u fp) (hk:∀b∈fp,H' b=H b) (hm:Mono H H'):Nd C H' g a u fp:=by
 cases g with
 | m=>obtain⟨e,rfl⟩:=n;exact⟨by rw[hk a (by simp)];exact e,rfl⟩
 | l=>exact n
 | f=>obtain⟨⟨o,e⟩,x,rfl⟩:=n;exact⟨⟨o,hm.z _ _ _ e⟩,x,rfl⟩
 | k=>obtain⟨⟨o,e⟩,rfl⟩:=n;exact⟨⟨o,hm.z _ _ _ e⟩,rfl⟩
theorem QP {K a xs} (h:SqT K H a xs) (hm:Mono H H'):SqT K H' a xs:=by
 rcases h with (h | ⟨o,h⟩) | h
 ·exact .inl (.inl (hm.t _ _ h))
 ·exact .inl (.inr ⟨o,hm.z _ _ _ h⟩)
 ·exact .inr h
mutual
theorem Rep.keep:∀{d:D} {v:V} {fp:List Addr},Rep C H d v fp→(∀a∈fp,H' a=H a)→Mono H H'→Rep C H' d v fp
 | .non,v,fp,h,_,_=>h
 | .bl b,v,fp,h,_,_=>h
 | .int i,v,fp,h,_,_=>h
 | .str s,v,fp,h,_,_=>h
 | .ty s,v,fp,h,_,_=>h
 | .tup ds,v,fp,⟨a,vs,e,t,r⟩,hk,hm=>⟨a,vs,e,QP t hm,Reps.keep r hk hm⟩
 | .ftu ds,v,fp,⟨a,vs,e,t,r⟩,hk,hm=>⟨a,vs,e,t.keep hm,Reps.keep r hk hm⟩
 | .lst g ds,v,fp,⟨a,vs,f1,f2,e,n,r,z,e2⟩,hk,hm=>⟨a,vs,f1,f2,e,n.keep (fun b hb=>hk b (by rw[e2];exact List.mem_append_left _ hb)) hm,Reps.keep r (fun b hb=>hk b (by rw[e2];exact List.mem_append_right _ hb)) hm,z,e2⟩
 | .dct g ks ds,v,fp,⟨a,vs,f1,f2,e,n,q,r,z,e2⟩,hk,hm=>⟨a,vs,f1,f2,e,n.keep (fun b hb=>hk b (by rw[e2];exact List.mem_append_left _ hb)) hm,q,Reps.keep r (fun b hb=>hk b (by rw[e2];exact List.mem_append_right _ hb)) hm,z,e2⟩
 | .obj g c ns ds,v,fp,⟨a,Ca,dx,fs,f1,f2,e,c1,n,q,r,z,e2⟩,hk,hm=>⟨a,Ca,dx,fs,f1,f2,e,c1,n.keep (fun b hb=>hk b (by rw[e2];exact List.mem_append_left _ hb)) hm,q,Reps.keep r (fun b hb=>hk b (by rw[e2];exact List.mem_append_right _ hb)) hm,z,e2⟩
 | .exc c ns ds,v,fp,⟨a,Ca,d,fs,e,c1,n,x,q,r,e2⟩,hk,hm=>⟨a,Ca,d,fs,e,c1,hm.x _ _ trivial n,x.mono hm,q,Reps.keep r (fun b hb=>nomatch hb) hm,e2⟩
theorem Reps.keep:∀{ds:List D} {vs:List V} {fp:List Addr},Reps C H ds vs fp→(∀a∈fp,H' a=H a)→Mono H H'→Reps C H' ds vs fp
 | [],vs,fp,h,_,_=>h
 | d::ds,vs,fp,⟨v,vs',f1,f2,e,r,rs,e2⟩,hk,hm=>⟨v,vs',f1,f2,e,Rep.keep r (fun b hb=>hk b (by rw[e2];exact List.mem_append_left _ hb)) hm,Reps.keep rs (fun b hb=>hk b (by rw[e2];exact List.mem_append_right _ hb)) hm,e2⟩
end
theorem Nd.imm {g a u fp} (n:Nd C H g a u fp) (h:(g == .l || g == .f)=true):fp=[]:=by
 cases g with
 | m=>cases h
 | l=>exact n.2
 | f=>exact n.2.2
 | k=>cases h
mutual
theorem Rep.imm:∀{d:D} {v:V} {fp:List Addr},Rep C H d v fp→d.imm=true→fp=[]
 | .non,v,fp,h,_=>h.2
 | .bl b,v,fp,h,_=>h.2
 | .int i,v,fp,h,_=>h.2
 | .str s,v,fp,h,_=>h.2
 | .ty s,v,fp,h,_=>h.2
 | .tup ds,v,fp,⟨a,vs,e,t,r⟩,hi=>Reps.imm r hi
 | .ftu ds,v,fp,⟨a,vs,e,t,r⟩,hi=>Reps.imm r hi
 | .lst g ds,v,fp,⟨a,vs,f1,f2,e,n,r,z,e2⟩,hi=>by
  have h:=Bool.and_eq_true_iff.mp hi
  rw[e2,n.imm h.1,Reps.imm r h.2];rfl
 | .dct g ks ds,v,fp,⟨a,vs,f1,f2,e,n,q,r,z,e2⟩,hi=>by
  have h:=Bool.and_eq_true_iff.mp hi
  rw[e2,n.imm h.1,Reps.imm r h.2];rfl
 | .obj g c ns ds,v,fp,⟨a,Ca,dx,fs,f1,f2,e,c1,n,q,r,z,e2⟩,hi=>by
  have h:=Bool.and_eq_true_iff.mp hi
  rw[e2,n.imm h.1,Reps.imm r h.2];rfl
 | .exc c ns ds,v,fp,⟨a,Ca,d,fs,e,c1,n,x,q,r,e2⟩,hi=>e2
theorem Reps.imm:∀{ds:List D} {vs:List V} {fp:List Addr},Reps C H ds vs fp→imms ds=true→fp=[]
 | [],vs,fp,h,_=>h.2
 | d::ds,vs,fp,⟨v,vs',f1,f2,e,r,rs,e2⟩,hi=>by
  have h:=Bool.and_eq_true_iff.mp hi
  rw[e2,Rep.imm r h.1,Reps.imm rs h.2];rfl
end
end
section
variable {C:Ctx} {H H':Hp}
theorem Nd.trk {g a u fp} (n:Nd C H g a u fp) (mu:Mutb u):∀b∈fp,∃o,H b=some o∧Mutb o:=by
 cases g with
 | m=>obtain⟨e,rfl⟩:=n;intro b hb;simp at hb;subst hb;exact⟨u,e,mu⟩
 | l=>obtain⟨_,rfl⟩:=n;intro b hb;cases hb
 | f=>obtain⟨_,_,rfl⟩:=n;intro b hb;cases hb
 | k=>obtain⟨_,rfl⟩:=n;intro b hb;cases hb
mutual
theorem Rep.trk:∀{d:D} {v:V} {fp:List Addr},Rep C H d v fp→∀b∈fp,∃o,H b=some o∧Mutb o
 | .non,v,fp,h=>by rw[h.2];intro b hb;cases hb
 | .bl b,v,fp,h=>by rw[h.2];intro b hb;cases hb
 | .int i,v,fp,h=>by rw[h.2];intro b hb;cases hb
 | .str s,v,fp,h=>by rw[h.2];intro b hb;cases hb
 | .ty s,v,fp,h=>by rw[h.2];intro b hb;cases hb
 | .tup ds,v,fp,⟨a,vs,e,t,r⟩=>Reps.trk r
 | .ftu ds,v,fp,⟨a,vs,e,t,r⟩=>Reps.trk r
 | .lst g ds,v,fp,⟨a,vs,f1,f2,e,n,r,z,e2⟩=>fun b hb=>by
  rw[e2]at hb
  exact(List.mem_append.mp hb).elim (Nd.trk n trivial b) (Reps.trk r b)
 | .dct g ks ds,v,fp,⟨a,vs,f1,f2,e,n,q,r,z,e2⟩=>fun b hb=>by
  rw[e2]at hb
  exact(List.mem_append.mp hb).elim (Nd.trk n trivial b) (Reps.trk r b)
 | .obj g c ns ds,v,fp,⟨a,Ca,dx,fs,f1,f2,e,c1,n,q,r,z,e2⟩=>fun b hb=>by
  rw[e2]at hb
  exact(List.mem_append.mp hb).elim (Nd.trk n trivial b) (Reps.trk r b)
 | .exc c ns ds,v,fp,⟨a,Ca,d,fs,e,c1,n,x,q,r,e2⟩=>fun b hb=>by rw[e2]at hb;cases hb
theorem Reps.trk:∀{ds:List D} {vs:List V} {fp:List Addr},Reps C H ds vs fp→∀b∈fp,∃o,H b=some o∧Mutb o
 | [],vs,fp,h=>by rw[h.2];intro b hb;cases hb
 | d::ds,vs,fp,⟨v,vs',f1,f2,e,r,rs,e2⟩=>fun b hb=>by
  rw[e2]at hb
  exact(List.mem_append.mp hb).elim (Rep.trk r b) (Reps.trk rs b)
end
def Fr (C:Ctx) (H:Hp):Prop:=∀a o,C.H0 a=some o→a∉C.A→H a=some o∨(a∈C.Lk∧Mutb o∧∃ob,H a=some (.frz ob o))
theorem Nd.rd {g a u fp} (n:Nd C H g a u fp) (f:Fr C H):RdK C.K H a u:=by
 cases g with
 | m=>exact .inl (.inl n.1)
 | l =>
  obtain⟨⟨h | ⟨o,h⟩,na⟩ | h,_⟩:=n
  ·rcases f a _ h na with q | ⟨_,_,ob,q⟩
   ·exact .inl (.inl q)
   ·exact .inl (.inr ⟨ob,q⟩)
  ·rcases f a _ h na with q | ⟨_,mu,ob,q⟩
   ·exact .inl (.inr ⟨o,q⟩)
   ·exact mu.elim
  ·exact .inr h
 | f=>exact .inl (.inr n.1)
 | k=>exact .inl (.inr n.1)
structure Good (C:Ctx) (fs:FPs) (env:Env) (σ:St) (H:Hp) (tf:List Addr):Prop where
 le:env.length=σ.length
 lf:fs.length=σ.length
 rep:∀i d,env[i]?=some (some d)→∃v,σ[i]?=some (some v)∧Rep C H d v (fs.getD i [])
 nd:(fs.flatten++tf).Nodup
 own:∀a∈fs.flatten++tf,a∈C.A∨C.H0 a=none
 trk:∀a∈fs.flatten++tf,∃o,H a=some o∧Mutb o
 fr:Fr C H
 lk:∀a∈C.Lk,∃ob u,H a=some (.frz ob u)
structure Step (M:List Nat) (tf:List Addr) (fs:FPs) (env:Env) (H:Hp) (fs':FPs) (env':Env) (H':Hp):Prop where
 t:∀a∈tf,H' a=H a
 f:∀i,i∉M→fs'.getD i []=fs.getD i []
 e:∀i,i∉M→env'[i]?=env[i]?
 h:∀i,i∉M→∀a∈fs.getD i [],H' a=H a
 m:Mono H H'
theorem Step.refl {M tf fs env H}:Step M tf fs env H fs env H:=⟨fun _ _=>rfl,fun _ _=>rfl,fun _ _=>rfl,fun _ _ _ _=>rfl,.refl H⟩
theorem Step.trans {M1 M2 tf fs env H fs1 env1 H1 fs2 env2 H2} (a:Step M1 tf fs env H fs1 env1 H1) (b:Step M2 tf fs1 env1 H1 fs2 env2 H2):Step (M1++M2) tf fs env H fs2 env2 H2:=by
 refine⟨fun x hx=>(b.t x hx).trans (a.t x hx),fun i hi=>?_,fun i hi=>?_,fun i hi x hx=>?_,a.m.trans b.m⟩
 all_goals rw[List.mem_append,not_or]at hi
 ·exact(b.f i hi.2).trans (a.f i hi.1)
 ·exact(b.e i hi.2).trans (a.e i hi.1)
 ·exact(b.h i hi.2 x (by rw[a.f i hi.1];exact hx)).trans (a.h i hi.1 x hx)
theorem Step.weak {M M' tf tf' fs env H fs1 env1 H1} (a:Step M tf fs env H fs1 env1 H1) (h:∀i∈M,i∈M') (ht:∀x∈tf',x∈tf):Step M' tf' fs env H fs1 env1 H1 :=
 ⟨fun x hx=>a.t x (ht x hx),fun i hi=>a.f i fun z=>hi (h i z),fun i hi=>a.e i fun z=>hi (h i z),fun i hi=>a.h i fun z=>hi (h i z),a.m⟩
theorem JbD (fs:FPs) {i:Nat} (hi:i < fs.length) (x:List Addr):(fs.set i x).flatten.Perm (x++(fs.set i []).flatten):=by
 induction fs generalizing i with
 | nil=>cases hi
 | cons f fs ih =>
  cases i with
  | zero=>simp
  | succ i =>
   simp only[List.set_cons_succ,List.flatten_cons]
   refine ((ih (by simpa using hi)).append_left f).trans ?_
   rw[←List.append_assoc,←List.append_assoc]
   exact List.perm_append_comm.append_right _
theorem UQ (fs:FPs) {i:Nat} (hi:i < fs.length):fs.flatten.Perm (fs.getD i []++(fs.set i []).flatten):=by
 have e:fs.set i (fs.getD i [])=fs:=by
  rw[List.getD_eq_getElem?_getD,List.getElem?_eq_getElem hi];simp
 have:=JbD fs hi (fs.getD i [])
 rwa[e]at this
theorem Yt (fs:FPs) (i j:Nat) (x:List Addr) (hi:i < fs.length):(fs.set i x).getD j []=if j=i then x else fs.getD j []:=by
 rw[List.getD_eq_getElem?_getD,List.getElem?_set,List.getD_eq_getElem?_getD]
 by_cases e:j=i
 ·subst e;simp[hi]
 ·simp[e,Ne.symm e]
theorem UD {fs:FPs} {i:Nat} {a:Addr} (h:a∈fs.getD i []):a∈fs.flatten:=by
 rw[List.getD_eq_getElem?_getD]at h
 cases q:fs[i]? with
 | none=>rw[q]at h;simp at h
 | some x=>rw[q]at h;exact List.mem_flatten.mpr ⟨x,List.mem_of_getElem? q,by simpa using h⟩
theorem Good.lt {fs env σ tf i d} (G:Good C fs env σ H tf) (h:env[i]?=some (some d)):i < fs.length:=by
 have:=(List.getElem?_eq_some_iff.mp h).1
 rw[G.lf,←G.le];exact this
theorem Good.apart {fs env σ tf} (G:Good C fs env σ H tf) {i j:Nat} {a:Addr} (hij:i≠j) (hi:a∈fs.getD i []):a∉fs.getD j []:=fun hj=>by
 have lt:∀k:Nat,a∈fs.getD k []→k < fs.length:=fun k hk=>by
  rw[List.getD_eq_getElem?_getD]at hk
  cases q:fs[k]? with
  | none=>rw[q]at hk;simp at hk
  | some x=>exact(List.getElem?_eq_some_iff.mp q).1
 have p:=UQ fs (lt i hi)
 have nd:=(List.nodup_append.mp G.nd).1
 have nd2:=p.nodup_iff.mp nd
 have dj:=(List.nodup_append.mp nd2).2.2 a hi a
 refine dj ?_ rfl
 have:a∈(fs.set i []).getD j []:=by rw[Yt fs i j [] (lt i hi),if_neg (Ne.symm hij)];exact hj
 exact UD this
theorem Good.apartT {fs env σ tf} (G:Good C fs env σ H tf) {i:Nat} {a:Addr} (hi:a∈fs.getD i []):a∉tf:=fun hj =>
 (List.nodup_append.mp G.nd).2.2 a (UD hi) a hj rfl
end
end VS
namespace VS
open PySem L2
structure Exn where
 cls:Str
 pay:Option (Str × D)
inductive R (α:Type) where
 | ok (a:α) (e:Env)
 | ex (x:Exn) (e:Env)
 | err
def R.bind {α β:Type} (r:R α) (f:α→Env→R β):R β :=
 match r with
 | .ok a e=>f a e
 | .ex x e=>.ex x e
 | .err=>.err
def R.of {α:Type} (o:Option α) (e:Env):R α :=
 match o with
 | some a=>.ok a e
 | none=>.err
abbrev CE:=Env→R D
abbrev CA:=Env→R (List D)
def Ctx.At (C:Ctx) (X:Cx):Prop:=C.K=X.K∧C.mg=X.mg
def ExIs (C:Ctx) (x:Exn) (cv:Value) (dd:Option Addr) (H:Hp):Prop :=
 ∃Ca,C.mg x.cls=some (.ref Ca)∧cv=.ref Ca ∧
  match x.pay with
  | none=>dd=none
  | some (f,d)=>∃da v,dd=some da∧H da=some (.xd [(f,v)])∧d.nol=true∧Rep C H d v []
section
variable (X:Cx) (W:WX) (C:Ctx)
def Yw (M:List Nat) (tf:List Addr) (fs:FPs) (env:Env) (σ:St) (H:Hp) (Q:VK):R D→Prop
 | .ok d env'=>∀v fs' H' fp,Good C fs' env' σ H' (fp++tf)→Step M tf fs env H fs' env' H'→Rep C H' d v fp→Q v H'
 | .ex x env'=>∀cv dd fs' H',Good C fs' env' σ H' tf→Step M tf fs env H fs' env' H'→ExIs C x cv dd H'→W cv dd σ H'
 | .err=>False
def In (R:List Nat) (own:List Addr) (fs:FPs) (fp:List Addr):Prop:=∀a∈fp,a∈own∨∃r∈R,a∈fs.getD r []
def Jc0 (M Rs:List Nat) (tf:List Addr) (fs:FPs) (env:Env) (σ:St) (H:Hp) (Q:VK):R D→Prop
 | .ok d env'=>∀v fs' H' fp own,Good C fs' env' σ H' (own++tf)→Step M tf fs env H fs' env' H'→Rep C H' d v fp→In Rs own fs' fp→Q v H'
 | .ex x env'=>∀cv dd fs' H',Good C fs' env' σ H' tf→Step M tf fs env H fs' env' H'→ExIs C x cv dd H'→W cv dd σ H'
 | .err=>False
def Je2 (M Rs:List Nat) (tf:List Addr) (fs:FPs) (env:Env) (σ:St) (H:Hp) (Q:List V→Hp→Prop):R (List D)→Prop
 | .ok ds env'=>∀vs fs' H' fp own,Good C fs' env' σ H' (own++tf)→Step M tf fs env H fs' env' H'→Reps C H' ds vs fp→In Rs own fs' fp→Q vs H'
 | .ex x env'=>∀cv dd fs' H',Good C fs' env' σ H' tf→Step M tf fs env H fs' env' H'→ExIs C x cv dd H'→W cv dd σ H'
 | .err=>False
end
structure SO (X:Cx) (W:WX) (M:List Nat) (e:Expr) (c:CE):Prop where
 go:∃t,PE X e t∧∀C fs env σ H tf Q,C.At X→Good C fs env σ H tf→Yw W C M tf fs env σ H Q (c env)→t σ H Q
structure SB (X:Cx) (W:WX) (M Rs:List Nat) (e:Expr) (c:CE):Prop where
 go:∃t,PE X e t∧∀C fs env σ H tf Q,C.At X→Good C fs env σ H tf→Jc0 W C M Rs tf fs env σ H Q (c env)→t σ H Q
structure SA (X:Cx) (W:WX) (M Rs:List Nat) (es:List Expr) (c:CA):Prop where
 go:∃t,PA X es t∧∀C fs env σ H tf Q,C.At X→Good C fs env σ H tf→Je2 W C M Rs tf fs env σ H Q (c env)→t σ H Q
def Le (H H':Hp):Prop:=∀a o,H a=some o→H' a=some o
theorem Le.refl (H:Hp):Le H H:=fun _ _ h=>h
theorem Le.trans {H H1 H2:Hp} (a:Le H H1) (b:Le H1 H2):Le H H2:=fun x o h=>b x o (a x o h)
theorem Le.new {H:Hp} {a:Addr} {o:HO} (h:H a=none):Le H (upd H a o):=fun b u e=>by rw[upd_ne (ne_of_none e h)];exact e
theorem Le.mono {H H':Hp} (h:Le H H'):Mono H H':=⟨fun a xs e=>h a _ e,fun a o u e=>h a _ e,fun a o _ e=>h a _ e⟩
theorem Le.at {H H':Hp} (h:Le H H') {a:Addr} {P:HO→Prop} (t:∃o,H a=some o∧P o):H' a=H a:=by
 obtain⟨o,e,_⟩:=t
 rw[e];exact h a o e
section
variable {C:Ctx} {H H' H1 H2:Hp} {fs fs':FPs} {env env':Env} {σ:St} {tf fp own:List Addr} {M Rs:List Nat}
theorem Rep.le {d v} (r:Rep C H d v fp) (h:Le H H'):Rep C H' d v fp:=r.keep (fun a ha=>h.at (r.trk a ha)) h.mono
theorem Reps.le {ds vs} (r:Reps C H ds vs fp) (h:Le H H'):Reps C H' ds vs fp:=r.keep (fun a ha=>h.at (r.trk a ha)) h.mono
theorem Fr.le (f:Fr C H) (h:Le H H'):Fr C H':=fun a o e na=>by
 rcases f a o e na with q | ⟨q1,q2,ob,q3⟩
 ·exact .inl (h _ _ q)
 ·exact .inr ⟨q1,q2,ob,h _ _ q3⟩
theorem Fr.fresh (f:Fr C H) {a:Addr} (n:H a=none):a∈C.A∨C.H0 a=none:=by
 by_cases ha:a∈C.A
 ·exact .inl ha
 ·cases q:C.H0 a with
  | none=>exact .inr rfl
  | some o =>
   rcases f a o q ha with z | ⟨_,_,ob,z⟩
   ·rw[n]at z;cases z
   ·rw[n]at z;cases z
theorem Good.grow (G:Good C fs env σ H tf) (h:Le H H') (nd:fp.Nodup) (nw:∀a∈fp,H a=none) (tk:∀a∈fp,∃o,H' a=some o∧Mutb o):Good C fs env σ H' (fp++tf) where
 le:=G.le
 lf:=G.lf
 rep:=fun i d e=>let ⟨v,e1,r⟩:=G.rep i d e;⟨v,e1,r.le h⟩
 nd:=by
  have p:(fs.flatten++(fp++tf)).Perm (fp++(fs.flatten++tf)):=by
   rw[←List.append_assoc,←List.append_assoc]
   exact List.perm_append_comm.append_right _
  refine p.nodup_iff.mpr (List.nodup_append.mpr ⟨nd,G.nd,fun a ha b hb e=>?_⟩)
  subst e
  obtain⟨o,q,_⟩:=G.trk a hb
  rw[nw a ha]at q;cases q
 own:=fun a ha=>by
  rcases List.mem_append.mp ha with z | z
  ·exact G.own a (List.mem_append_left _ z)
  ·rcases List.mem_append.mp z with z | z
   ·exact G.fr.fresh (nw a z)
   ·exact G.own a (List.mem_append_right _ z)
 trk:=fun a ha=>by
  rcases List.mem_append.mp ha with z | z
  ·obtain⟨o,q,mu⟩:=G.trk a (List.mem_append_left _ z)
   exact⟨o,h _ _ q,mu⟩
  ·rcases List.mem_append.mp z with z | z
   ·exact tk a z
   ·obtain⟨o,q,mu⟩:=G.trk a (List.mem_append_right _ z)
    exact⟨o,h _ _ q,mu⟩
 fr:=G.fr.le h
 lk:=fun a ha=>let ⟨ob,u,e⟩:=G.lk a ha;⟨ob,u,h _ _ e⟩
theorem Good.le' (G:Good C fs env σ H tf) (h:Le H H'):Good C fs env σ H' tf:=G.grow (fp:=[]) h .nil (fun _ z=>nomatch z) fun _ z=>nomatch z
theorem Good.sub {tf':List Addr} (G:Good C fs env σ H tf) (h:tf'.Sublist tf):Good C fs env σ H tf' where
 le:=G.le
 lf:=G.lf
 rep:=G.rep
 nd:=G.nd.sublist ((List.Sublist.refl _).append h)
 own:=fun a ha=>G.own a (by
  rcases List.mem_append.mp ha with z | z
  ·exact List.mem_append_left _ z
  ·exact List.mem_append_right _ (h.subset z))
 trk:=fun a ha=>G.trk a (by
  rcases List.mem_append.mp ha with z | z
  ·exact List.mem_append_left _ z
  ·exact List.mem_append_right _ (h.subset z))
 fr:=G.fr
 lk:=G.lk
theorem Good.drop (G:Good C fs env σ H (own++tf)):Good C fs env σ H tf:=G.sub (List.sublist_append_right _ _)
theorem Step.grow (G:Good C fs env σ H tf) (h:Le H H'):Step M tf fs env H fs env H' :=
 ⟨fun a ha=>h.at (G.trk a (List.mem_append_right _ ha)),fun _ _=>rfl,fun _ _=>rfl,fun i _ a ha=>h.at (G.trk a (List.mem_append_left _ (UD ha))),h.mono⟩
theorem In.keep (hi:In Rs own fs fp) (s:Step M (own++tf) fs env H1 fs' env' H2) (hd:∀r∈Rs,r∉M):∀a∈fp,H2 a=H1 a:=fun a ha=>by
 rcases hi a ha with z | ⟨r,hr,z⟩
 ·exact s.t a (List.mem_append_left _ z)
 ·exact s.h r (hd r hr) a z
theorem In.step {own2:List Addr} (hi:In Rs own fs fp) (s:Step M (own++tf) fs env H1 fs' env' H2) (hd:∀r∈Rs,r∉M):In Rs (own2++own) fs' fp:=fun a ha=>by
 rcases hi a ha with z | ⟨r,hr,z⟩
 ·exact .inl (List.mem_append_right _ z)
 ·exact .inr ⟨r,hr,by rw[s.f r (hd r hr)];exact z⟩
theorem In.mono {Rs':List Nat} {own':List Addr} (hi:In Rs own fs fp) (h:∀r∈Rs,r∈Rs') (ho:∀a∈own,a∈own'):In Rs' own' fs fp:=fun a ha=>by
 rcases hi a ha with z | ⟨r,hr,z⟩
 ·exact .inl (ho a z)
 ·exact .inr ⟨r,h r hr,z⟩
end
def djB (Rs M:List Nat):Bool:=Rs.all fun r=>!M.contains r
theorem US {Rs M:List Nat} (h:djB Rs M=true):∀r∈Rs,r∉M:=fun r hr hm=>by
 have:=List.all_eq_true.mp h r hr
 simp[hm]at this
section
variable {X:Cx} {W:WX} {M M1 M2 Rs R1 R2:List Nat} {e a b:Expr} {es:List Expr} {ca cb:CE} {cs:CA}
theorem SO.sb (h:SO X W M e ca):SB X W M [] e ca:=by
 obtain⟨t,p,q⟩:=h.go
 refine⟨t,p,fun C fs env σ H tf Q hC G po=>q C fs env σ H tf Q hC G ?_⟩
 cases e1:ca env with
 | ok d env' =>
  rw[e1]at po
  exact fun v fs' H' fp G' s r=>po v fs' H' fp fp G' s r fun x hx=>.inl hx
 | ex x env'=>rw[e1]at po;exact po
 | err=>rw[e1]at po;exact po
def cImm (c:CE):CE:=fun env=>(c env).bind fun d env=>if d.imm then .ok d env else .err
theorem SB.imm (h:SB X W M Rs e ca):SO X W M e (cImm ca):=by
 obtain⟨t,p,q⟩:=h.go
 refine⟨t,p,fun C fs env σ H tf Q hC G po=>q C fs env σ H tf Q hC G ?_⟩
 unfold cImm at po
 cases e1:ca env with
 | ok d env' =>
  rw[e1]at po
  intro v fs' H' fp own G' s r hi
  have po':Yw W C M tf fs env σ H Q (if d.imm then .ok d env' else .err):=po
  by_cases hd:d.imm=true
  ·rw[if_pos hd]at po'
   have z:=r.imm hd
   subst z
   exact po' v fs' H' [] (by simpa using G'.drop) s r
  ·rw[if_neg hd]at po';exact po'.elim
 | ex x env'=>rw[e1]at po;exact po
 | err=>rw[e1]at po;exact po
def cNil:CA:=fun env=>.ok [] env
def Jb (c:CE) (cs:CA):CA:=fun env=>(c env).bind fun d env=>(cs env).bind fun ds env=>.ok (d::ds) env
theorem Js:SA X W [] [] [] cNil:=by
 refine⟨tNil,pa_nil,fun C fs env σ H tf Q hC G po=>?_⟩
 exact po [] fs H [] [] (by simpa using G) .refl ⟨rfl,rfl⟩ fun _ z=>nomatch z
theorem Jg (ha:SB X W M1 R1 a ca) (hr:SA X W M2 R2 es cs) (hd:djB R1 M2=true:=by decide) (hs:starEach (a::es) X.env=(false,eval a X.env)::starEach es X.env:=by rfl) :
  SA X W (M1++M2) (R1++R2) (a::es) (Jb ca cs):=by
 obtain⟨t,p,q⟩:=ha.go
 obtain⟨t2,p2,q2⟩:=hr.go
 refine⟨tCons t t2,pa_cons p p2 hs,fun C fs env σ H tf Q hC G po=>?_⟩
 refine q C fs env σ H tf _ hC G ?_
 unfold Jb at po
 cases e1:ca env with
 | err=>rw[e1]at po;exact po
 | ex x env' =>
  rw[e1]at po
  exact fun cv dd fs' H' G' s=>po cv dd fs' H' G' (s.weak (fun i hi=>List.mem_append_left _ hi) fun _ z=>z)
 | ok d env1 =>
  rw[e1]at po
  intro v fs1 H1 fp1 own1 G1 s1 r1 i1
  refine q2 C fs1 env1 σ H1 (own1++tf) _ hC G1 ?_
  have po':Je2 W C (M1++M2) (R1++R2) tf fs env σ H Q ((cs env1).bind fun ds env=>.ok (d::ds) env):=po
  cases e2:cs env1 with
  | err=>rw[e2]at po';exact po'
  | ex x env' =>
   rw[e2]at po'
   exact fun cv dd fs' H' G' s=>po' cv dd fs' H' G'.drop (s1.trans (s.weak (fun _ z=>z) fun x hx=>List.mem_append_right _ hx))
  | ok ds env2 =>
   rw[e2]at po'
   intro vs fs2 H2 fp2 own2 G2 s2 r2 i2
   have po2:∀vs fs' H' fp own,Good C fs' env2 σ H' (own++tf)→Step (M1++M2) tf fs env H fs' env2 H'→Reps C H' (d::ds) vs fp→In (R1++R2) own fs' fp→Q vs H':=po'
   have k1:=i1.keep s2 (US hd)
   refine po2 (v::vs) fs2 H2 (fp1++fp2) (own2++own1) (by rw[List.append_assoc];exact G2) (s1.trans (s2.weak (fun _ z=>z) fun x hx=>List.mem_append_right _ hx)) ⟨v,vs,fp1,fp2,rfl,r1.keep k1 s2.m,r2,rfl⟩ ?_
   intro x hx
   rcases List.mem_append.mp hx with z | z
   ·exact(i1.step (own2:=own2) s2 (US hd)).mono (fun r hr=>List.mem_append_left _ hr) (fun _ z=>z) x z
   ·exact i2.mono (fun r hr=>List.mem_append_right _ hr) (fun _ z=>List.mem_append_left _ z) x z
end
end VS
namespace VS
open PySem L2
section
variable {X:Cx} {W:WX} {M M1 M2 M3 Rs R1 R2 R3:List Nat} {e a b c:Expr} {es:List Expr} {ca cb cc:CE} {cs:CA} {pos:Pos}
def cVar (i:Nat):CE:=fun env=>match env[i]? with
 | some (some d)=>.ok d env
 | _=>.err
theorem Ja (i:Nat) {x:Str} (hN:X.N[i]?=some x:=by rfl) (hv:Vis X.env.scope x:=by first | exact Or.inl rfl | exact Or.inr (Or.inl rfl) | exact Or.inr (Or.inr rfl)) (hd:(x == ("__debug__" : Str))=false:=by decide)
  (hcd:(x == ("__classdict__" : Str))=false:=by decide):SB X W [] [i] (.Name x pos) (cVar i):=by
 refine⟨tVar i,pe_var hN hv hd hcd,fun C fs env σ H tf Q hC G po=>?_⟩
 unfold cVar at po
 split at po
 ·rename_i d e1
  obtain⟨v,e2,r⟩:=G.rep i d e1
  exact⟨v,e2,po v fs H _ [] (by simpa using G) .refl r fun a ha=>.inr ⟨i,by simp,ha⟩⟩
 ·exact po.elim
def cMv (i:Nat):CE:=fun env=>match env[i]? with
 | some (some d)=>.ok d (env.set i none)
 | _=>.err
theorem Good.mv {C:Ctx} {fs:FPs} {env:Env} {σ:St} {H:Hp} {tf:List Addr} {i:Nat} {d:D} (G:Good C fs env σ H tf) (h:env[i]?=some (some d)) :
  Good C (fs.set i []) (env.set i none) σ H (fs.getD i []++tf):=by
 have hl:=G.lt h
 have p:((fs.set i []).flatten++(fs.getD i []++tf)).Perm (fs.flatten++tf):=by
  rw[←List.append_assoc]
  refine List.Perm.append_right _ ?_
  exact(List.perm_append_comm).trans (UQ fs hl).symm
 refine⟨by simpa using G.le,by simpa using G.lf,fun j d' e=>?_,p.nodup_iff.mpr G.nd,fun a ha=>G.own a (p.mem_iff.mp ha),fun a ha=>G.trk a (p.mem_iff.mp ha),G.fr,G.lk⟩
 rw[List.getElem?_set]at e
 by_cases hj:i=j
 ·subst hj;simp at e
 ·rw[if_neg hj]at e
  obtain⟨v,e1,r⟩:=G.rep j d' e
  exact⟨v,e1,by rw[Yt fs i j [] hl,if_neg (Ne.symm hj)];exact r⟩
def cK (d:D):CE:=fun env=>.ok d env
theorem so_k {v:V} {d:D} {t:TE} (p:PE X e t) (ht:∀σ H Q,Q v H→t σ H Q) (hr:∀C H,Rep C H d v []):SO X W [] e (cK d) :=
 ⟨t,p,fun C fs env σ H tf Q hC G po=>ht σ H Q (po v fs H [] (by simpa using G) .refl (hr C H))⟩
theorem Jd {i j}:SO X W [] (.Constant (.int i) j pos) (cK (.int i)):=so_k pe_int (fun _ _ _ h=>h) fun _ _=>⟨rfl,rfl⟩
theorem ZX {b j}:SO X W [] (.Constant (.bool b) j pos) (cK (.bl b)):=so_k pe_bl (fun _ _ _ h=>h) fun _ _=>⟨rfl,rfl⟩
theorem Jc7 {j}:SO X W [] (.Constant .none j pos) (cK .non):=so_k pe_non (fun _ _ _ h=>h) fun _ _=>⟨rfl,rfl⟩
theorem Zq {x j}:SO X W [] (.Constant (.str x) j pos) (cK (.str x)):=so_k pe_str (fun _ _ _ h=>h) fun _ _=>⟨rfl,rfl⟩
def cTwo (ca cb:CE):Env→R (D × D):=fun env=>(ca env).bind fun x env=>(cb env).bind fun y env=>.ok (x,y) env
def c2 (p:D→D→Option D) (ca cb:CE):CE:=fun env=>(cTwo ca cb env).bind fun xy env=>R.of (p xy.1 xy.2) env
def Jfa (W:WX) (C:Ctx) (M R1 R2:List Nat) (tf:List Addr) (fs:FPs) (env:Env) (σ:St) (H:Hp) (Q:V→V→Hp→Prop):R (D × D)→Prop
 | .ok d env'=>∀x y fs' H' f1 f2 own,Good C fs' env' σ H' (own++tf)→Step M tf fs env H fs' env' H'→Rep C H' d.1 x f1→Rep C H' d.2 y f2→In R1 own fs' f1→In R2 own fs' f2→Q x y H'
 | .ex x env'=>∀cv dd fs' H',Good C fs' env' σ H' tf→Step M tf fs env H fs' env' H'→ExIs C x cv dd H'→W cv dd σ H'
 | .err=>False
theorem Jcq (ha:SB X W M1 R1 a ca) (hb:SB X W M2 R2 b cb) (hd:djB R1 M2=true):∃ta tb,PE X a ta∧PE X b tb∧∀C fs env σ H tf Q,C.At X→Good C fs env σ H tf →
  Jfa W C (M1++M2) R1 R2 tf fs env σ H Q (cTwo ca cb env)→ta σ H fun x H1=>tb σ H1 fun y H2=>Q x y H2:=by
 obtain⟨t,p,q⟩:=ha.go
 obtain⟨t2,p2,q2⟩:=hb.go
 refine⟨t,t2,p,p2,fun C fs env σ H tf Q hC G po=>?_⟩
 refine q C fs env σ H tf _ hC G ?_
 unfold cTwo at po
 cases e1:ca env with
 | err=>rw[e1]at po;exact po
 | ex x env' =>
  rw[e1]at po
  exact fun cv dd fs' H' G' s=>po cv dd fs' H' G' (s.weak (fun i hi=>List.mem_append_left _ hi) fun _ z=>z)
 | ok d env1 =>
  rw[e1]at po
  intro v fs1 H1 fp1 own1 G1 s1 r1 i1
  refine q2 C fs1 env1 σ H1 (own1++tf) _ hC G1 ?_
  have po':Jfa W C (M1++M2) R1 R2 tf fs env σ H Q ((cb env1).bind fun y env=>.ok (d,y) env):=po
  cases e2:cb env1 with
  | err=>rw[e2]at po';exact po'
  | ex x env' =>
   rw[e2]at po'
   exact fun cv dd fs' H' G' s=>po' cv dd fs' H' G'.drop (s1.trans (s.weak (fun _ z=>z) fun x hx=>List.mem_append_right _ hx))
  | ok d2 env2 =>
   rw[e2]at po'
   intro v2 fs2 H2 fp2 own2 G2 s2 r2 i2
   have po2:∀x y fs' H' f1 f2 own,Good C fs' env2 σ H' (own++tf)→Step (M1++M2) tf fs env H fs' env2 H'→Rep C H' d x f1→Rep C H' d2 y f2→In R1 own fs' f1→In R2 own fs' f2→Q x y H':=po'
   exact po2 v v2 fs2 H2 fp1 fp2 (own2++own1) (by rw[List.append_assoc];exact G2) (s1.trans (s2.weak (fun _ z=>z) fun x hx=>List.mem_append_right _ hx)) (r1.keep (i1.keep s2 (US hd)) s2.m) r2
    (i1.step (own2:=own2) s2 (US hd)) (i2.mono (fun _ z=>z) fun _ z=>List.mem_append_left _ z)
def ZB (C:Ctx) (H:Hp) (d:D) (Q:VK):Prop:=∀v H' fp,Le H H'→Rep C H' d v fp→fp.Nodup→(∀a∈fp,H a=none)→Q v H'
structure Pr2 (X:Cx) (r:L2.R2) (p:D→D→Option D):Prop where
 run:∀C H x y dx dy fx fy d Q,C.At X→Fr C H→Rep C H dx x fx→Rep C H dy y fy→p dx dy=some d→ZB C H d Q→r x y H Q
structure Pr1 (X:Cx) (r:V→Hp→VK→Prop) (p:D→Option D):Prop where
 run:∀C H x dx fx d Q,C.At X→Fr C H→Rep C H dx x fx→p dx=some d→ZB C H d Q→r x H Q
structure PrL (X:Cx) (r:List V→Hp→VK→Prop) (p:List D→Option D):Prop where
 run:∀C H xs dxs fx d Q,C.At X→Fr C H→Reps C H dxs xs fx→p dxs=some d→ZB C H d Q→r xs H Q
theorem Uc {C:Ctx} {fs fs1:FPs} {env env1:Env} {σ:St} {H H1:Hp} {tf own:List Addr} {d:D} {Q:VK} (G1:Good C fs1 env1 σ H1 (own++tf)) (s1:Step M tf fs env H fs1 env1 H1)
  (po:Yw W C M tf fs env σ H Q (.ok d env1)):ZB C H1 d Q:=fun v H' fp le r nd nw =>
 po v fs1 H' fp (G1.drop.grow le nd nw r.trk) (by
  have:=s1.trans (Step.grow (M:=[]) G1.drop le)
  simpa using this) r
theorem so_op {op:Operator} {r:L2.R2} {p:D→D→Option D} (ho:OpR X (binaryOp op) r) (hp:Pr2 X r p) (ha:SB X W M1 R1 a ca) (hb:SB X W M2 R2 b cb) (hd:djB R1 M2=true:=by decide) :
  SO X W (M1++M2) (.BinOp a op b pos) (c2 p ca cb):=by
 obtain⟨ta,tb,pa,pb,q⟩:=Jcq ha hb hd
 refine⟨tOp r ta tb,pe_op ho pa pb,fun C fs env σ H tf Q hC G po=>q C fs env σ H tf _ hC G ?_⟩
 unfold c2 at po
 cases e1:cTwo ca cb env with
 | err=>rw[e1]at po;exact po
 | ex x env'=>rw[e1]at po;exact po
 | ok d env' =>
  rw[e1]at po
  intro x y fs' H' f1 f2 own G' s r1 r2 i1 i2
  have po':Yw W C (M1++M2) tf fs env σ H Q (R.of (p d.1 d.2) env'):=po
  cases e2:p d.1 d.2 with
  | none=>rw[e2]at po';exact po'.elim
  | some z =>
   rw[e2]at po'
   exact hp.run C H' x y d.1 d.2 f1 f2 z Q hC G'.fr r1 r2 e2 (Uc G' s po')
theorem so_cmp {op:CmpOp} {r:L2.R2} {p:D→D→Option D} (ho:OpR X (compareOp op) r) (hp:Pr2 X r p) (ha:SB X W M1 R1 a ca) (hb:SB X W M2 R2 b cb) (hm:behindInMarks op b=false:=by first | exact nomark _ | rfl) (hd:djB R1 M2=true:=by decide) :
  SO X W (M1++M2) (.Compare a [op] [b] pos) (c2 p ca cb):=by
 obtain⟨ta,tb,pa,pb,q⟩:=Jcq ha hb hd
 refine⟨tOp r ta tb,pe_cmpR ho pa pb hm,fun C fs env σ H tf Q hC G po=>q C fs env σ H tf _ hC G ?_⟩
 unfold c2 at po
 cases e1:cTwo ca cb env with
 | err=>rw[e1]at po;exact po
 | ex x env'=>rw[e1]at po;exact po
 | ok d env' =>
  rw[e1]at po
  intro x y fs' H' f1 f2 own G' s r1 r2 i1 i2
  have po':Yw W C (M1++M2) tf fs env σ H Q (R.of (p d.1 d.2) env'):=po
  cases e2:p d.1 d.2 with
  | none=>rw[e2]at po';exact po'.elim
  | some z =>
   rw[e2]at po'
   exact hp.run C H' x y d.1 d.2 f1 f2 z Q hC G'.fr r1 r2 e2 (Uc G' s po')
def c1 (p:D→Option D) (ca:CE):CE:=fun env=>(ca env).bind fun x env=>R.of (p x) env
theorem so_un {op:UnaryOp} {r:V→Hp→VK→Prop} {p:D→Option D} (ho:UnR X (unaryOp op) r) (hp:Pr1 X r p) (ha:SB X W M1 R1 a ca):SO X W M1 (.UnaryOp op a pos) (c1 p ca):=by
 obtain⟨ta,pa,q⟩:=ha.go
 refine⟨tUn r ta,pe_un ho pa,fun C fs env σ H tf Q hC G po=>q C fs env σ H tf _ hC G ?_⟩
 unfold c1 at po
 cases e1:ca env with
 | err=>rw[e1]at po;exact po
 | ex x env'=>rw[e1]at po;exact po
 | ok d env' =>
  rw[e1]at po
  intro x fs' H' f1 own G' s r1 i1
  have po':Yw W C M1 tf fs env σ H Q (R.of (p d) env'):=po
  cases e2:p d with
  | none=>rw[e2]at po';exact po'.elim
  | some z =>
   rw[e2]at po'
   exact hp.run C H' x d f1 z Q hC G'.fr r1 e2 (Uc G' s po')
abbrev CT:=Env→R Bool
def JaS (W:WX) (C:Ctx) (M:List Nat) (tf:List Addr) (fs:FPs) (env:Env) (σ:St) (H:Hp) (Q:Bool→Hp→Prop):R Bool→Prop
 | .ok b env'=>∀fs' H',Good C fs' env' σ H' tf→Step M tf fs env H fs' env' H'→Q b H'
 | .ex x env'=>∀cv dd fs' H',Good C fs' env' σ H' tf→Step M tf fs env H fs' env' H'→ExIs C x cv dd H'→W cv dd σ H'
 | .err=>False
structure ST (X:Cx) (W:WX) (M:List Nat) (e:Expr) (c:CT):Prop where
 go:∃t,PT X e t∧∀C fs env σ H tf Q,C.At X→Good C fs env σ H tf→JaS W C M tf fs env σ H Q (c env)→t σ H Q
structure SW (X:Cx) (W:WX) (M:List Nat) (e:Expr) (c:CT):Prop where
 go:∃t,PW X e t∧∀C fs env σ H tf Q,C.At X→Good C fs env σ H tf→JaS W C M tf fs env σ H Q (c env)→t σ H Q
theorem SW.st {c:CT} (h:SW X W M e c):ST X W M e c:=by
 obtain⟨t,p,q⟩:=h.go
 exact⟨t,p.pt,q⟩
def D.tt:D→Option Bool
 | .bl b=>some b
 | _=>none
def cTt (ca:CE):CT:=fun env=>(ca env).bind fun d env=>R.of d.tt env
theorem tt_of {C:Ctx} {H:Hp} {d:D} {v:V} {fp:List Addr} {k:Bool} (r:Rep C H d v fp) (h:d.tt=some k):v=.bl k:=by
 cases d<;>simp[D.tt]at h
 subst h
 exact r.1
theorem Je9 {t:TE} (ht:PT X e (tB t)) (hs:∀C fs env σ H tf Q,C.At X→Good C fs env σ H tf→Jc0 W C M Rs tf fs env σ H Q (ca env)→t σ H Q):ST X W M e (cTt ca):=by
 refine⟨tB t,ht,fun C fs env σ H tf Q hC G po=>hs C fs env σ H tf _ hC G ?_⟩
 unfold cTt at po
 cases e1:ca env with
 | err=>rw[e1]at po;exact po
 | ex x env'=>rw[e1]at po;exact po
 | ok d env' =>
  rw[e1]at po
  intro x fs' H' f1 own G' s r1 i1
  have po':JaS W C M tf fs env σ H Q (R.of d.tt env'):=po
  cases e2:d.tt with
  | none=>rw[e2]at po';exact po'.elim
  | some k =>
   rw[e2]at po'
   exact⟨k,tt_of r1 e2,po' fs' H' G'.drop s⟩
theorem Zo (h:SB X W M Rs e ca) (he:∀whole,isTrue e X.env whole=(do let v ←whole;standAt e.pos;holding [v] (truthy v)):=by intro _;rfl):ST X W M e (cTt ca):=by
 obtain⟨t,p,q⟩:=h.go
 exact Je9 (pt_val p he) q
theorem post_ob {C:Ctx} {fs:FPs} {env:Env} {σ:St} {H:Hp} {tf:List Addr} {Q:VK} {z:R D} (po:Jc0 W C M [] tf fs env σ H Q z):Yw W C M tf fs env σ H Q z:=by
 cases z with
 | err=>exact po
 | ex x env'=>exact po
 | ok d env'=>exact fun v fs' H' fp G' s r=>po v fs' H' fp fp G' s r fun x hx=>.inl hx
theorem st_cmp {op:CmpOp} {r:L2.R2} {p:D→D→Option D} (ho:OpR X (compareOp op) r) (hp:Pr2 X r p) (ha:SB X W M1 R1 a ca) (hb:SB X W M2 R2 b cb) (hm:behindInMarks op b=false:=by first | exact nomark _ | rfl) (hd:djB R1 M2=true:=by decide) :
  ST X W (M1++M2) (.Compare a [op] [b] pos) (cTt (c2 p ca cb)):=by
 obtain⟨ta,tb,pa,pb,q⟩:=Jcq ha hb hd
 refine Je9 (Rs:=[]) (t:=tOp r ta tb) (pt_cmpR ho pa pb hm) fun C fs env σ H tf Q hC G po=>q C fs env σ H tf _ hC G ?_
 have po:=post_ob po
 unfold c2 at po
 cases e1:cTwo ca cb env with
 | err=>rw[e1]at po;exact po
 | ex x env'=>rw[e1]at po;exact po
 | ok d env' =>
  rw[e1]at po
  intro x y fs' H' f1 f2 own G' s r1 r2 i1 i2
  have po':Yw W C (M1++M2) tf fs env σ H Q (R.of (p d.1 d.2) env'):=po
  cases e2:p d.1 d.2 with
  | none=>rw[e2]at po';exact po'.elim
  | some z =>
   rw[e2]at po'
   exact hp.run C H' x y d.1 d.2 f1 f2 z Q hC G'.fr r1 r2 e2 (Uc G' s po')
def ZY (ca cb:CT):CT:=fun env=>(ca env).bind fun b env=>if b=true then cb env else .ok false env
def tcOr (ca cb:CT):CT:=fun env=>(ca env).bind fun b env=>if b=true then .ok true env else cb env
def UE (ca:CT):CT:=fun env=>(ca env).bind fun b env=>.ok (!b) env
variable {ta tb:CT}
theorem ZR (h:ST X W M a ta):SW X W M (.BoolOp .And [a] pos) ta:=by
 obtain⟨t,p,q⟩:=h.go
 exact⟨t,pw_and1 p,q⟩
theorem Jbb (h:ST X W M a ta):SW X W M (.BoolOp .Or [a] pos) ta:=by
 obtain⟨t,p,q⟩:=h.go
 exact⟨t,pw_or1 p,q⟩
theorem seqT {C:Ctx} {fs:FPs} {env:Env} {σ:St} {H:Hp} {tf:List Addr} {Q:Bool→Hp→Prop} {f:Bool→CT} {t u:TT} (hC:C.At X) (G:Good C fs env σ H tf)
  (ht:∀C fs env σ H tf Q,C.At X→Good C fs env σ H tf→JaS W C M1 tf fs env σ H Q (ta env)→t σ H Q)
  (po:JaS W C (M1++M2) tf fs env σ H Q ((ta env).bind fun b env=>f b env)) {K:Bool→Hp→Prop}
  (hK:∀b fs1 env1 H1,Good C fs1 env1 σ H1 tf→Step M1 tf fs env H fs1 env1 H1→JaS W C M2 tf fs1 env1 σ H1 Q (f b env1)→K b H1):t σ H K:=by
 refine ht C fs env σ H tf _ hC G ?_
 cases e1:ta env with
 | err=>rw[e1]at po;exact po
 | ex x env' =>
  rw[e1]at po
  exact fun cv dd fs' H' G' s=>po cv dd fs' H' G' (s.weak (fun i hi=>List.mem_append_left _ hi) fun _ z=>z)
 | ok d env1 =>
  rw[e1]at po
  intro fs1 H1 G1 s1
  refine hK d fs1 env1 H1 G1 s1 ?_
  have po':JaS W C (M1++M2) tf fs env σ H Q (f d env1):=po
  cases e2:f d env1 with
  | err=>rw[e2]at po';exact po'
  | ex x env' =>
   rw[e2]at po'
   exact fun cv dd fs' H' G' s=>po' cv dd fs' H' G' (s1.trans s)
  | ok d2 env2 =>
   rw[e2]at po'
   exact fun fs2 H2 G2 s2=>po' fs2 H2 G2 (s1.trans s2)
theorem QF (ha:ST X W M1 a ta) (hb:SW X W M2 (.BoolOp .And (b::es) pos) tb):SW X W (M1++M2) (.BoolOp .And (a::b::es) pos) (ZY ta tb):=by
 obtain⟨t,p,q⟩:=ha.go
 obtain⟨t2,p2,q2⟩:=hb.go
 refine⟨tAnd t t2,pw_and p p2,fun C fs env σ H tf Q hC G po=>?_⟩
 refine seqT (M1:=M1) (M2:=M2) (ta:=ta) (f:=fun b env=>if b=true then tb env else .ok false env) (u:=t2) hC G q po fun b fs1 env1 H1 G1 s1 po1=>?_
 cases b with
 | true=>exact q2 C fs1 env1 σ H1 tf Q hC G1 po1
 | false=>exact po1 fs1 H1 G1 .refl
theorem Jbn (ha:ST X W M1 a ta) (hb:SW X W M2 (.BoolOp .Or (b::es) pos) tb):SW X W (M1++M2) (.BoolOp .Or (a::b::es) pos) (tcOr ta tb):=by
 obtain⟨t,p,q⟩:=ha.go
 obtain⟨t2,p2,q2⟩:=hb.go
 refine⟨tOr t t2,pw_or p p2,fun C fs env σ H tf Q hC G po=>?_⟩
 refine seqT (M1:=M1) (M2:=M2) (ta:=ta) (f:=fun b env=>if b=true then .ok true env else tb env) (u:=t2) hC G q po fun b fs1 env1 H1 G1 s1 po1=>?_
 cases b with
 | false=>exact q2 C fs1 env1 σ H1 tf Q hC G1 po1
 | true=>exact po1 fs1 H1 G1 .refl
theorem Zm (ha:ST X W M a ta):ST X W M (.UnaryOp .Not a pos) (UE ta):=by
 obtain⟨t,p,q⟩:=ha.go
 refine⟨tNot t,pt_not p,fun C fs env σ H tf Q hC G po=>q C fs env σ H tf _ hC G ?_⟩
 unfold UE at po
 cases e1:ta env with
 | err=>rw[e1]at po;exact po
 | ex x env'=>rw[e1]at po;exact po
 | ok d env'=>rw[e1]at po;exact po
end
end VS
namespace VS
open PySem L2 SeqAt
def rD2 (X:Cx) (p:D→D→Option D):L2.R2:=fun x y H Q=>∃C dx dy fx fy d,Ctx.At C X∧Fr C H∧Rep C H dx x fx∧Rep C H dy y fy∧p dx dy=some d∧ZB C H d Q
def rD1 (X:Cx) (p:D→Option D):V→Hp→VK→Prop:=fun x H Q=>∃C dx fx d,Ctx.At C X∧Fr C H∧Rep C H dx x fx∧p dx=some d∧ZB C H d Q
def rDL (X:Cx) (p:List D→Option D):List V→Hp→VK→Prop:=fun xs H Q=>∃C dxs fx d,Ctx.At C X∧Fr C H∧Reps C H dxs xs fx∧p dxs=some d∧ZB C H d Q
theorem Jdc {X:Cx} {p}:Pr2 X (rD2 X p) p:=⟨fun C H x y dx dy fx fy d Q hC hF rx ry e k=>⟨C,dx,dy,fx,fy,d,hC,hF,rx,ry,e,k⟩⟩
theorem pr1_rd {X:Cx} {p}:Pr1 X (rD1 X p) p:=⟨fun C H x dx fx d Q hC hF rx e k=>⟨C,dx,fx,d,hC,hF,rx,e,k⟩⟩
abbrev OD2 (X:Cx) (f:Value→Value→Sem Value) (p:D→D→Option D):Prop:=OpR X f (rD2 X p)
abbrev OD1 (X:Cx) (f:Value→Sem Value) (p:D→Option D):Prop:=UnR X f (rD1 X p)
abbrev ODL (X:Cx) (f:Value) (p:List D→Option D):Prop:=CallR X f (rDL X p)
theorem OD2.of {X:Cx} {f r p} (h:OpR X f r) (hp:∀x y H Q,rD2 X p x y H Q→r x y H Q):OD2 X f p:=fun pins s σ H x y v u Q I rx ry q=>h pins s σ H x y v u Q I rx ry (hp _ _ _ _ q)
theorem OD1.of {X:Cx} {f r p} (h:UnR X f r) (hp:∀x H Q,rD1 X p x H Q→r x H Q):OD1 X f p:=fun pins s σ H x v Q I rx q=>h pins s σ H x v Q I rx (hp _ _ _ q)
theorem ODL.of {X:Cx} {f r p} (h:CallR X f r) (hp:∀xs H Q,rDL X p xs H Q→r xs H Q):ODL X f p:=fun pins s σ H xs us Q I rx q=>h pins s σ H xs us Q I rx (hp _ _ _ q)
def orP2 (p q:D→D→Option D):D→D→Option D:=fun x y=>(p x y).or (q x y)
theorem OD2.or {X:Cx} {f p q} (h:OD2 X f p) (h':OD2 X f q):OD2 X f (orP2 p q):=by
 intro pins s σ H x y v u Q I rx ry ⟨C,dx,dy,fx,fy,d,hC,hF,r1,r2,e,k⟩
 unfold orP2 at e
 cases e1:p dx dy with
 | some z =>
  rw[e1]at e
  have e2:z=d:=Option.some.inj e
  subst e2
  exact h pins s σ H x y v u Q I rx ry ⟨C,dx,dy,fx,fy,z,hC,hF,r1,r2,e1,k⟩
 | none=>rw[e1]at e;exact h' pins s σ H x y v u Q I rx ry ⟨C,dx,dy,fx,fy,d,hC,hF,r1,r2,e,k⟩
theorem ZB.here {C:Ctx} {H:Hp} {d:D} {Q:VK} (k:ZB C H d Q) {v:V} (r:Rep C H d v []):Q v H:=k v H [] (Le.refl H) r .nil (fun _ z=>nomatch z)
section
variable {X:Cx} {W:WX} {M M1 M2 M3 Rs R1 R2 R3:List Nat} {e a b c:Expr} {es:List Expr} {ca cb cc:CE} {cs:CA} {pos:Pos}
theorem Jk {op:Operator} {p:D→D→Option D} (ho:OD2 X (binaryOp op) p) (ha:SB X W M1 R1 a ca) (hb:SB X W M2 R2 b cb) (hd:djB R1 M2=true:=by decide):SO X W (M1++M2) (.BinOp a op b pos) (c2 p ca cb):=so_op ho Jdc ha hb hd
theorem Zi {op:CmpOp} {p:D→D→Option D} (ho:OD2 X (compareOp op) p) (ha:SB X W M1 R1 a ca) (hb:SB X W M2 R2 b cb) (hm:behindInMarks op b=false:=by first | exact nomark _ | rfl) (hd:djB R1 M2=true:=by decide) :
  SO X W (M1++M2) (.Compare a [op] [b] pos) (c2 p ca cb):=so_cmp ho Jdc ha hb hm hd
theorem JG {op:CmpOp} {p:D→D→Option D} (ho:OD2 X (compareOp op) p) (ha:SB X W M1 R1 a ca) (hb:SB X W M2 R2 b cb) (hm:behindInMarks op b=false:=by first | exact nomark _ | rfl) (hd:djB R1 M2=true:=by decide) :
  ST X W (M1++M2) (.Compare a [op] [b] pos) (cTt (c2 p ca cb)):=st_cmp ho Jdc ha hb hm hd
def pI (c:Int→Int→Bool) (g:Int→Int→Int):D→D→Option D
 | .int i,.int j=>if c i j then some (.int (g i j)) else none
 | _,_=>none
def pIB (g:Int→Int→Bool):D→D→Option D
 | .int i,.int j=>some (.bl (g i j))
 | _,_=>none
theorem JeF {c g dx dy d} (h:pI c g dx dy=some d):∃i j,dx=.int i∧dy=.int j∧c i j=true∧d=.int (g i j):=by
 unfold pI at h
 split at h
 ·rename_i i j
  split at h
  ·rename_i hc;cases h;exact⟨i,j,rfl,rfl,hc,rfl⟩
  ·cases h
 ·cases h
theorem pIB_inv {g dx dy d} (h:pIB g dx dy=some d):∃i j,dx=.int i∧dy=.int j∧d=.bl (g i j):=by
 unfold pIB at h
 split at h
 ·rename_i i j;cases h;exact⟨i,j,rfl,rfl,rfl⟩
 ·cases h
theorem Jco {f:Value→Value→Sem Value} {Cc:Int→Int→Prop} {c:Int→Int→Bool} {g:Int→Int→Int} (h:OpR X f (rI Cc fun i j=>.int (g i j))) (hc:∀i j,c i j=true→Cc i j):OD2 X f (pI c g):=by
 refine OD2.of h fun x y H Q ⟨C,dx,dy,fx,fy,d,hC,hF,r1,r2,e,k⟩=>?_
 obtain⟨i,j,rfl,rfl,h1,rfl⟩:=JeF e
 obtain⟨rfl,_⟩:=r1
 obtain⟨rfl,_⟩:=r2
 exact⟨i,j,rfl,rfl,hc i j h1,k.here ⟨rfl,rfl⟩⟩
theorem JdF {f:Value→Value→Sem Value} {g:Int→Int→Int} (h:OpR X f (rI0 fun i j=>.int (g i j))):OD2 X f (pI (fun _ _=>true) g):=by
 refine OD2.of h fun x y H Q ⟨C,dx,dy,fx,fy,d,hC,hF,r1,r2,e,k⟩=>?_
 obtain⟨i,j,rfl,rfl,h1,rfl⟩:=JeF e
 obtain⟨rfl,_⟩:=r1
 obtain⟨rfl,_⟩:=r2
 exact⟨i,j,rfl,rfl,k.here ⟨rfl,rfl⟩⟩
theorem Jdf {f:Value→Value→Sem Value} {g:Int→Int→Bool} (h:OpR X f (rI0 fun i j=>.bl (g i j))):OD2 X f (pIB g):=by
 refine OD2.of h fun x y H Q ⟨C,dx,dy,fx,fy,d,hC,hF,r1,r2,e,k⟩=>?_
 obtain⟨i,j,rfl,rfl,rfl⟩:=pIB_inv e
 obtain⟨rfl,_⟩:=r1
 obtain⟨rfl,_⟩:=r2
 exact⟨i,j,rfl,rfl,k.here ⟨rfl,rfl⟩⟩
abbrev Jd5:=pI (fun _ _=>true) (fun i j=>i+j)
abbrev pSub:=pI (fun _ _=>true) (fun i j=>i - j)
abbrev Zd:=pI (fun i j=>decide (-(2 ^ 64) < i∧i < 2 ^ 64) || decide (-(2 ^ 64) < j∧j < 2 ^ 64)) (fun i j=>i * j)
abbrev pDiv:=pI (fun _ j=>decide (0 < j∧j < 2 ^ 64)) (fun i j=>i / j)
abbrev pMod:=pI (fun _ j=>decide (0 < j)) (fun i j=>i % j)
abbrev pPow:=pI (fun i j=>decide (0≤j∧j≤1000000∧i.natAbs < 2 ^ 64)) (fun i j=>i ^ j.toNat)
theorem od_addI:OD2 X (binaryOp .Add) Jd5:=JdF op_add
theorem ZF:OD2 X (binaryOp .Sub) pSub:=JdF op_sub
theorem Uv:OD2 X (binaryOp .Mult) Zd:=Jco op_mul fun i j h=>by
 rcases Bool.or_eq_true_iff.mp h with z | z
 ·exact .inl (of_decide_eq_true z)
 ·exact .inr (of_decide_eq_true z)
theorem Jdb:OD2 X (binaryOp .FloorDiv) pDiv:=Jco op_fdivW fun i j h=>by
 obtain⟨h1,h2⟩:=of_decide_eq_true h
 refine wide_div (b:=64) h1 ?_ (by decide) (by decide)
 omega
theorem ZL:OD2 X (binaryOp .Mod) pMod:=Jco op_mod fun i j h=>of_decide_eq_true h
theorem Jcm:OD2 X (binaryOp .Pow) pPow:=Jco op_pow fun i j h=>by
 have z:=of_decide_eq_true h
 exact z
abbrev pLtI:=pIB fun i j=>decide (i < j)
abbrev pGtI:=pIB fun i j=>decide (j < i)
abbrev pGeI:=pIB fun i j=>decide (j≤i)
theorem od_ltI:OD2 X (compareOp .Lt) pLtI:=Jdf op_lt
theorem od_gtI:OD2 X (compareOp .Gt) pGtI:=Jdf op_gt
theorem od_geI:OD2 X (compareOp .GtE) pGeI:=Jdf op_ge
def pNeg:D→Option D
 | .int i=>some (.int (-i))
 | _=>none
theorem od_neg:OD1 X (unaryOp .USub) pNeg:=by
 refine OD1.of un_neg fun x H Q ⟨C,dx,fx,d,hC,hF,r1,e,k⟩=>?_
 cases dx<;>simp[pNeg]at e
 subst e
 obtain⟨rfl,_⟩:=r1
 exact⟨_,rfl,k.here ⟨rfl,rfl⟩⟩
theorem Jch (ha:SB X W M R1 a ca):SO X W M (.UnaryOp .USub a pos) (c1 pNeg ca):=so_un od_neg pr1_rd ha
mutual
def pyEq:D→D→Bool
 | .non,.non=>true
 | .bl a,.bl b=>a == b
 | .bl a,.int j=>(if a then 1 else 0) == j
 | .int i,.bl b=>i == (if b then 1 else 0)
 | .int i,.int j=>i == j
 | .str x,.str y=>x == y
 | .lst _ xs,.lst _ ys=>pyEqs xs ys
 | .tup xs,.tup ys=>pyEqs xs ys
 | _,_=>false
def pyEqs:List D→List D→Bool
 | [],[]=>true
 | x::xs,y::ys=>pyEq x y && pyEqs xs ys
 | _,_=>false
end
mutual
def eqOk:Nat→D→Bool
 | _,.non=>true
 | _,.bl _=>true
 | _,.int _=>true
 | _,.str _=>true
 | n+1,.lst _ ds=>eqOks n ds
 | n+1,.tup ds=>eqOks n ds
 | _,_=>false
def eqOks:Nat→List D→Bool
 | _,[]=>true
 | n,d::ds=>eqOk n d && eqOks n ds
end
theorem Jh {C:Ctx} {H:Hp}:∀{ds:List D} {vs:List V} {fp:List Addr},Reps C H ds vs fp→ds.length=vs.length
 | [],vs,fp,⟨h,_⟩=>by rw[h];rfl
 | d::ds,vs,fp,⟨v,vs',f1,f2,e,r,rs,_⟩=>by rw[e];simp[Jh rs]
theorem Qd {C:Ctx} {H:Hp}:∀{ds:List D} {vs:List V} {fp:List Addr} {i:Nat} {d:D},Reps C H ds vs fp→ds[i]?=some d→∃v g1 f g2,vs[i]?=some v∧Rep C H d v f∧fp=g1++f++g2
 | [],vs,fp,i,d,_,h=>by simp at h
 | d0::ds,vs,fp,0,d,⟨v,vs',f1,f2,e,r,rs,e2⟩,h=>by
  simp at h;subst h;subst e;exact⟨v,[],f1,f2,by simp,r,by simpa using e2⟩
 | d0::ds,vs,fp,i+1,d,⟨v,vs',f1,f2,e,r,rs,e2⟩,h=>by
  subst e
  obtain⟨w,g1,f,g2,h1,h2,h3⟩:=Qd (i:=i) rs (by simpa using h)
  exact⟨w,f1++g1,f,g2,by simpa using h1,h2,by rw[e2,h3];simp[List.append_assoc]⟩
theorem ZE:∀{xs ys:List D},xs.length≠ys.length→pyEqs xs ys=false
 | [],[],h=>absurd rfl h
 | [],_::_,_=>by simp[pyEqs]
 | _::_,[],_=>by simp[pyEqs]
 | x::xs,y::ys,h=>by rw[pyEqs,ZE (xs:=xs) (ys:=ys) (by simpa using h),Bool.and_false]
def Zz (xs ys:List D) (j:Nat):Bool:=match xs[j]?,ys[j]? with
 | some x,some y=>pyEq x y
 | _,_=>false
theorem ZC:∀{xs ys:List D},xs.length=ys.length→((List.range xs.length).all fun j=>Zz xs ys j)=pyEqs xs ys
 | [],[],_=>by simp[pyEqs]
 | x::xs,y::ys,h=>by
  rw[List.length_cons,List.range_succ_eq_map,List.all_cons,List.all_map,pyEqs]
  have e0:Zz (x::xs) (y::ys) 0=pyEq x y:=rfl
  have e1:((fun j=>Zz (x::xs) (y::ys) j)∘Nat.succ)=fun j=>Zz xs ys j:=by funext j;simp[Zz]
  rw[e0,e1,ZC (xs:=xs) (ys:=ys) (by simpa using h)]
variable {pins:List (Addr × Obj)} {σ:St} {H:Hp} {s:Shared} {C:Ctx}
theorem Jt {g ds v fp} (hC:C.At X) (hF:Fr C H) (r:Rep C H (.lst g ds) v fp):∃a vs f,v=.ref a∧SqL X.K H a vs∧Reps C H ds vs f:=by
 obtain⟨a,vs,f1,f2,e,n,r,_,_⟩:=r
 exact⟨a,vs,f2,e,by have:=(Nd.rd n hF).sql;rwa[hC.1]at this,r⟩
theorem JB {ds v fp} (hC:C.At X) (r:Rep C H (.tup ds) v fp):∃a vs,v=.ref a∧SqT X.K H a vs∧Reps C H ds vs fp:=by
 obtain⟨a,vs,e,n,r⟩:=r
 exact⟨a,vs,e,by rwa[hC.1]at n,r⟩
theorem ltu (I:Inv X pins σ H s) {a:Addr} {xs ys:List V} (h:SqL X.K H a xs) (h':SqT X.K H a ys):False:=by
 obtain⟨its,_,p,_⟩:=I.list h
 obtain⟨its',_,p',_⟩:=I.tuple h'
 obtain⟨o,n,e,c,_,_⟩:=p
 obtain⟨o',e',c',_⟩:=p'
 rw[e]at e';cases e'
 rw[c]at c'
 exact absurd c' (by decide)
mutual
theorem Jck (I:Inv X pins σ H s) (hC:C.At X) (hF:Fr C H):∀(d e:D) (n:Nat) (v:V) (f1 f2:List Addr),eqOk n d=true→eqOk n e=true→Rep C H d v f1→Rep C H e v f2→pyEq d e=true
 | .non,e,n,v,f1,f2,o1,o2,r1,r2=>by
  obtain⟨rfl,_⟩:=r1
  cases e<;>(try (simp[eqOk]at o2;done))<;>simp[Rep]at r2<;>first | rfl | exact absurd r2.1 (by simp)
 | .bl b,e,n,v,f1,f2,o1,o2,r1,r2=>by
  obtain⟨rfl,_⟩:=r1
  cases e<;>(try (simp[eqOk]at o2;done))<;>simp[Rep]at r2
  simp[pyEq,r2.1]
 | .int i,e,n,v,f1,f2,o1,o2,r1,r2=>by
  obtain⟨rfl,_⟩:=r1
  cases e<;>(try (simp[eqOk]at o2;done))<;>simp[Rep]at r2
  simp[pyEq,r2.1]
 | .str i,e,n,v,f1,f2,o1,o2,r1,r2=>by
  obtain⟨rfl,_⟩:=r1
  cases e<;>(try (simp[eqOk]at o2;done))<;>simp[Rep]at r2
  simp[pyEq,r2.1]
 | .ty i,e,n,v,f1,f2,o1,o2,r1,r2=>by simp[eqOk]at o1
 | .ftu _,e,n,v,f1,f2,o1,o2,r1,r2=>by simp[eqOk]at o1
 | .dct _ _ _,e,n,v,f1,f2,o1,o2,r1,r2=>by simp[eqOk]at o1
 | .obj _ _ _ _,e,n,v,f1,f2,o1,o2,r1,r2=>by simp[eqOk]at o1
 | .exc _ _ _,e,n,v,f1,f2,o1,o2,r1,r2=>by simp[eqOk]at o1
 | .lst g ds,e,n,v,f1,f2,o1,o2,r1,r2=>by
  obtain⟨a,vs,f,rfl,q,rs⟩:=Jt hC hF r1
  cases n with
  | zero=>simp[eqOk]at o1
  | succ n =>
   cases e with
   | lst g2 es =>
    obtain⟨b,ws,f',e1,q2,rs2⟩:=Jt hC hF r2
    cases e1
    rw[I.list_inj q2 q]at rs2
    exact eqs_same I hC hF ds es n vs f f' (by simpa [eqOk] using o1) (by simpa [eqOk] using o2) rs rs2
   | tup es =>
    obtain⟨b,ws,e1,q2,rs2⟩:=JB hC r2
    cases e1
    exact(ltu I q q2).elim
   | ty _=>simp[eqOk]at o2
   | ftu _=>simp[eqOk]at o2
   | dct _ _ _=>simp[eqOk]at o2
   | obj _ _ _ _=>simp[eqOk]at o2
   | exc _ _ _=>simp[eqOk]at o2
   | _=>simp[Rep]at r2
 | .tup ds,e,n,v,f1,f2,o1,o2,r1,r2=>by
  obtain⟨a,vs,rfl,q,rs⟩:=JB hC r1
  cases n with
  | zero=>simp[eqOk]at o1
  | succ n =>
   cases e with
   | tup es =>
    obtain⟨b,ws,e1,q2,rs2⟩:=JB hC r2
    cases e1
    rw[I.tuple_inj q2 q]at rs2
    exact eqs_same I hC hF ds es n vs f1 f2 (by simpa [eqOk] using o1) (by simpa [eqOk] using o2) rs rs2
   | lst g es =>
    obtain⟨b,ws,f,e1,q2,rs2⟩:=Jt hC hF r2
    cases e1
    exact(ltu I q2 q).elim
   | ty _=>simp[eqOk]at o2
   | ftu _=>simp[eqOk]at o2
   | dct _ _ _=>simp[eqOk]at o2
   | obj _ _ _ _=>simp[eqOk]at o2
   | exc _ _ _=>simp[eqOk]at o2
   | _=>simp[Rep]at r2
theorem eqs_same (I:Inv X pins σ H s) (hC:C.At X) (hF:Fr C H):∀(ds es:List D) (n:Nat) (vs:List V) (f1 f2:List Addr),eqOks n ds=true→eqOks n es=true→Reps C H ds vs f1→Reps C H es vs f2→pyEqs ds es=true
 | [],es,n,vs,f1,f2,o1,o2,r1,r2=>by
  have:=Jh r1
  have h2:=Jh r2
  cases es with
  | nil=>rfl
  | cons e es=>simp at this h2;omega
 | d::ds,[],n,vs,f1,f2,o1,o2,r1,r2=>by
  have:=Jh r1
  have h2:=Jh r2
  simp at this h2;omega
 | d::ds,e::es,n,vs,f1,f2,o1,o2,⟨v,vs',g1,g2,e1,r1,rs1,_⟩,⟨w,ws',k1,k2,e2,r2,rs2,_⟩=>by
  rw[e1]at e2;cases e2
  simp only[eqOks,Bool.and_eq_true]at o1 o2
  rw[pyEqs,Jck I hC hF d e n v g1 k1 o1.1 o2.1 r1 r2,eqs_same I hC hF ds es n vs' g2 k2 o1.2 o2.2 rs1 rs2];rfl
end
theorem YH {ds:List D} {vs:List V} {us:List Value} {fp} (r:Reps C H ds vs fp) (rv:Vals vs us):ds.length=us.length:=(Jh r).trans rv.length
section
open SeqAt
mutual
theorem Jdg (I:Inv X pins σ H s) (hC:C.At X) (hF:Fr C H):∀(d e:D) (n:Nat) (A:Around) (v w:V) (f1 f2:List Addr) (u u':Value),eqOk n d=true→eqOk n e=true→Rep C H d v f1→Rep C H e w f2→RelV v u→RelV w u'→A.units+n+1 < cLine →
  RcAt A s u u' (pyEq d e)∧EqAt A s u u' (pyEq d e)
 | .ty i,e,n,A,v,w,f1,f2,u,u',o1,o2,r1,r2,q1,q2,hu=>by simp[eqOk]at o1
 | .ftu _,e,n,A,v,w,f1,f2,u,u',o1,o2,r1,r2,q1,q2,hu=>by simp[eqOk]at o1
 | .dct _ _ _,e,n,A,v,w,f1,f2,u,u',o1,o2,r1,r2,q1,q2,hu=>by simp[eqOk]at o1
 | .obj _ _ _ _,e,n,A,v,w,f1,f2,u,u',o1,o2,r1,r2,q1,q2,hu=>by simp[eqOk]at o1
 | .exc _ _ _,e,n,A,v,w,f1,f2,u,u',o1,o2,r1,r2,q1,q2,hu=>by simp[eqOk]at o1
 | .non,e,n,A,v,w,f1,f2,u,u',o1,o2,r1,r2,q1,q2,hu=>by
  obtain⟨rfl,_⟩:=r1
  cases (show u=Value.none from q1)
  cases e with
  | non=>obtain⟨rfl,_⟩:=r2;cases (show u'=Value.none from q2);exact⟨RcAt.none_none,EqAt.same _⟩
  | bl b=>obtain⟨rfl,_⟩:=r2;cases (show u'=Value.bool b from q2);exact⟨RcAt.none_bool b,EqAt.none_bool b⟩
  | int j=>obtain⟨rfl,_⟩:=r2;obtain⟨t,rfl⟩:=q2;exact⟨RcAt.none_int j t,EqAt.none_int j t⟩
  | str j=>obtain⟨rfl,_⟩:=r2;obtain⟨t,rfl⟩:=q2;exact⟨RcAt.none_str j t,EqAt.none_str j t⟩
  | lst g es =>
   obtain⟨a,vs,f,rfl,q,rs⟩:=Jt hC hF r2
   cases (show u'=Value.ref a from q2)
   obtain⟨its,_,p,_⟩:=I.list q
   exact⟨RcAt.none_list p.isList (by omega),EqAt.none_list p.isList (by omega)⟩
  | tup es =>
   obtain⟨a,vs,rfl,q,rs⟩:=JB hC r2
   cases (show u'=Value.ref a from q2)
   obtain⟨its,_,p,_⟩:=I.tuple q
   exact⟨RcAt.none_tuple p (by omega),EqAt.none_tuple p (by omega)⟩
  | ty _=>simp[eqOk]at o2
  | ftu _=>simp[eqOk]at o2
  | dct _ _ _=>simp[eqOk]at o2
  | obj _ _ _ _=>simp[eqOk]at o2
  | exc _ _ _=>simp[eqOk]at o2
 | .bl x,e,n,A,v,w,f1,f2,u,u',o1,o2,r1,r2,q1,q2,hu=>by
  obtain⟨rfl,_⟩:=r1
  cases (show u=Value.bool x from q1)
  cases e with
  | non=>obtain⟨rfl,_⟩:=r2;cases (show u'=Value.none from q2);exact⟨RcAt.bool_none x,EqAt.bool_none x⟩
  | bl b=>obtain⟨rfl,_⟩:=r2;cases (show u'=Value.bool b from q2);exact⟨RcAt.bool_bool x b,EqAt.bool_bool x b⟩
  | int j=>obtain⟨rfl,_⟩:=r2;obtain⟨t,rfl⟩:=q2;exact⟨RcAt.bool_int x j t,EqAt.bool_int x j t⟩
  | str j=>obtain⟨rfl,_⟩:=r2;obtain⟨t,rfl⟩:=q2;exact⟨RcAt.bool_str x j t,EqAt.bool_str x j t⟩
  | lst g es =>
   obtain⟨a,vs,f,rfl,q,rs⟩:=Jt hC hF r2
   cases (show u'=Value.ref a from q2)
   obtain⟨its,_,p,_⟩:=I.list q
   exact⟨RcAt.bool_list x p.isList (by omega),EqAt.bool_list x p.isList (by omega)⟩
  | tup es =>
   obtain⟨a,vs,rfl,q,rs⟩:=JB hC r2
   cases (show u'=Value.ref a from q2)
   obtain⟨its,_,p,_⟩:=I.tuple q
   exact⟨RcAt.bool_tuple x p (by omega),EqAt.bool_tuple x p (by omega)⟩
  | ty _=>simp[eqOk]at o2
  | ftu _=>simp[eqOk]at o2
  | dct _ _ _=>simp[eqOk]at o2
  | obj _ _ _ _=>simp[eqOk]at o2
  | exc _ _ _=>simp[eqOk]at o2
 | .int x,e,n,A,v,w,f1,f2,u,u',o1,o2,r1,r2,q1,q2,hu=>by
  obtain⟨rfl,_⟩:=r1
  obtain⟨t0,rfl⟩:=q1
  cases e with
  | non=>obtain⟨rfl,_⟩:=r2;cases (show u'=Value.none from q2);exact⟨RcAt.int_none x t0,EqAt.int_none x t0⟩
  | bl b=>obtain⟨rfl,_⟩:=r2;cases (show u'=Value.bool b from q2);exact⟨RcAt.int_bool x t0 b,EqAt.int_bool x t0 b⟩
  | int j=>obtain⟨rfl,_⟩:=r2;obtain⟨t,rfl⟩:=q2;exact⟨RcAt.int_int x t0 j t,EqAt.int_int x t0 j t⟩
  | str j=>obtain⟨rfl,_⟩:=r2;obtain⟨t,rfl⟩:=q2;exact⟨RcAt.int_str x t0 j t,EqAt.int_str x t0 j t⟩
  | lst g es =>
   obtain⟨a,vs,f,rfl,q,rs⟩:=Jt hC hF r2
   cases (show u'=Value.ref a from q2)
   obtain⟨its,_,p,_⟩:=I.list q
   exact⟨RcAt.int_list x t0 p.isList (by omega),EqAt.int_list x t0 p.isList (by omega)⟩
  | tup es =>
   obtain⟨a,vs,rfl,q,rs⟩:=JB hC r2
   cases (show u'=Value.ref a from q2)
   obtain⟨its,_,p,_⟩:=I.tuple q
   exact⟨RcAt.int_tuple x t0 p (by omega),EqAt.int_tuple x t0 p (by omega)⟩
  | ty _=>simp[eqOk]at o2
  | ftu _=>simp[eqOk]at o2
  | dct _ _ _=>simp[eqOk]at o2
  | obj _ _ _ _=>simp[eqOk]at o2
  | exc _ _ _=>simp[eqOk]at o2
 | .str x,e,n,A,v,w,f1,f2,u,u',o1,o2,r1,r2,q1,q2,hu=>by
  obtain⟨rfl,_⟩:=r1
  obtain⟨t0,rfl⟩:=q1
  cases e with
  | non=>obtain⟨rfl,_⟩:=r2;cases (show u'=Value.none from q2);exact⟨RcAt.str_none x t0,EqAt.str_none x t0⟩
  | bl b=>obtain⟨rfl,_⟩:=r2;cases (show u'=Value.bool b from q2);exact⟨RcAt.str_bool x t0 b,EqAt.str_bool x t0 b⟩
  | int j=>obtain⟨rfl,_⟩:=r2;obtain⟨t,rfl⟩:=q2;exact⟨RcAt.str_int x t0 j t,EqAt.str_int x t0 j t⟩
  | str j=>obtain⟨rfl,_⟩:=r2;obtain⟨t,rfl⟩:=q2;exact⟨RcAt.str_str x t0 j t,EqAt.str_str x t0 j t⟩
  | lst g es =>
   obtain⟨a,vs,f,rfl,q,rs⟩:=Jt hC hF r2
   cases (show u'=Value.ref a from q2)
   obtain⟨its,_,p,_⟩:=I.list q
   exact⟨RcAt.str_list x t0 p.isList (by omega),EqAt.str_list x t0 p.isList (by omega)⟩
  | tup es =>
   obtain⟨a,vs,rfl,q,rs⟩:=JB hC r2
   cases (show u'=Value.ref a from q2)
   obtain⟨its,_,p,_⟩:=I.tuple q
   exact⟨RcAt.str_tuple x t0 p (by omega),EqAt.str_tuple x t0 p (by omega)⟩
  | ty _=>simp[eqOk]at o2
  | ftu _=>simp[eqOk]at o2
  | dct _ _ _=>simp[eqOk]at o2
  | obj _ _ _ _=>simp[eqOk]at o2
  | exc _ _ _=>simp[eqOk]at o2
 | .lst g ds,e,n,A,v,w,f1,f2,u,u',o1,o2,r1,r2,q1,q2,hu=>by
  have r1':=r1
  have r2':=r2
  have q2':=q2
  obtain⟨a,vs,f,rfl,q,rs⟩:=Jt hC hF r1
  cases (show u=Value.ref a from q1)
  obtain⟨its,rv,p,_⟩:=I.list q
  have hi:=p.isList
  cases e with
  | non=>obtain⟨rfl,_⟩:=r2;cases (show u'=Value.none from q2);exact⟨RcAt.list_none hi (by omega),EqAt.list_none hi (by omega)⟩
  | bl b=>obtain⟨rfl,_⟩:=r2;cases (show u'=Value.bool b from q2);exact⟨RcAt.list_bool b hi (by omega),EqAt.list_bool b hi (by omega)⟩
  | int j=>obtain⟨rfl,_⟩:=r2;obtain⟨t,rfl⟩:=q2;exact⟨RcAt.list_int j t hi (by omega),EqAt.list_int j t hi (by omega)⟩
  | str j=>obtain⟨rfl,_⟩:=r2;obtain⟨t,rfl⟩:=q2;exact⟨RcAt.list_str j t hi (by omega),EqAt.list_str j t hi (by omega)⟩
  | tup es =>
   obtain⟨b,ws,rfl,k,rs2⟩:=JB hC r2
   cases (show u'=Value.ref b from q2)
   obtain⟨its2,_,p2,_⟩:=I.tuple k
   exact⟨RcAt.list_tuple hi p2 (by omega),EqAt.list_tuple hi p2 (by omega)⟩
  | ty _=>simp[eqOk]at o2
  | ftu _=>simp[eqOk]at o2
  | dct _ _ _=>simp[eqOk]at o2
  | obj _ _ _ _=>simp[eqOk]at o2
  | exc _ _ _=>simp[eqOk]at o2
  | lst g2 es =>
   cases n with
   | zero=>simp[eqOk]at o1
   | succ n =>
    obtain⟨b,ws,f',rfl,k,rs2⟩:=Jt hC hF r2
    cases (show u'=Value.ref b from q2)
    obtain⟨its2,rv2,p2,_⟩:=I.list k
    have hi2:=p2.isList
    have n1:=YH rs rv
    have n2:=YH rs2 rv2
    have he:=rc_reps I hC hF ds es n A.in1 vs ws f f' its its2 (by simpa [eqOk] using o1) (by simpa [eqOk] using o2) rs rs2 rv rv2 (by show A.units+1+n+1 < cLine;omega)
    have rc:RcAt A s (.ref a) (.ref b) (pyEqs ds es):=by
     by_cases hsz:ds.length=es.length
     ·rw[←ZC hsz,n1]
      have:=RcAt.lists (A:=A) (e:=fun j=>Zz ds es j) hi hi2 (by simp;omega) (by omega) (fun j h1 h2=>by
       have:=he j (by simpa using h1) (by simpa using h2)
       simpa using this)
      simpa using this
     ·rw[ZE hsz]
      exact RcAt.lists_lengths hi hi2 (by simp;omega) (by omega)
    refine⟨rc,?_⟩
    by_cases hab:a=b
    ·subst hab
     have:=Jck I hC hF _ _ (n+1) _ f1 f2 o1 o2 r1' r2'
     rw[this];exact EqAt.same _
    ·exact EqAt.of_refs hab rc
 | .tup ds,e,n,A,v,w,f1,f2,u,u',o1,o2,r1,r2,q1,q2,hu=>by
  have r1':=r1
  have r2':=r2
  obtain⟨a,vs,rfl,q,rs⟩:=JB hC r1
  cases (show u=Value.ref a from q1)
  obtain⟨its,rv,p,_⟩:=I.tuple q
  have hi:s.heap.IsTuple a its.toArray:=p
  cases e with
  | non=>obtain⟨rfl,_⟩:=r2;cases (show u'=Value.none from q2);exact⟨RcAt.tuple_none hi (by omega),EqAt.tuple_none hi (by omega)⟩
  | bl b=>obtain⟨rfl,_⟩:=r2;cases (show u'=Value.bool b from q2);exact⟨RcAt.tuple_bool b hi (by omega),EqAt.tuple_bool b hi (by omega)⟩
  | int j=>obtain⟨rfl,_⟩:=r2;obtain⟨t,rfl⟩:=q2;exact⟨RcAt.tuple_int j t hi (by omega),EqAt.tuple_int j t hi (by omega)⟩
  | str j=>obtain⟨rfl,_⟩:=r2;obtain⟨t,rfl⟩:=q2;exact⟨RcAt.tuple_str j t hi (by omega),EqAt.tuple_str j t hi (by omega)⟩
  | lst g es =>
   obtain⟨b,ws,f,rfl,k,rs2⟩:=Jt hC hF r2
   cases (show u'=Value.ref b from q2)
   obtain⟨its2,_,p2,_⟩:=I.list k
   exact⟨RcAt.tuple_list hi p2.isList (by omega),EqAt.tuple_list hi p2.isList (by omega)⟩
  | ty _=>simp[eqOk]at o2
  | ftu _=>simp[eqOk]at o2
  | dct _ _ _=>simp[eqOk]at o2
  | obj _ _ _ _=>simp[eqOk]at o2
  | exc _ _ _=>simp[eqOk]at o2
  | tup es =>
   cases n with
   | zero=>simp[eqOk]at o1
   | succ n =>
    obtain⟨b,ws,rfl,k,rs2⟩:=JB hC r2
    cases (show u'=Value.ref b from q2)
    obtain⟨its2,rv2,p2,_⟩:=I.tuple k
    have hi2:s.heap.IsTuple b its2.toArray:=p2
    have n1:=YH rs rv
    have n2:=YH rs2 rv2
    have he:=rc_reps I hC hF ds es n A.in1 vs ws f1 f2 its its2 (by simpa [eqOk] using o1) (by simpa [eqOk] using o2) rs rs2 rv rv2 (by show A.units+1+n+1 < cLine;omega)
    have rc:RcAt A s (.ref a) (.ref b) (pyEqs ds es):=by
     have z:=RcAt.tuples (A:=A) (e:=fun j=>Zz ds es j) hi hi2 (by omega) (fun j h1 h2=>by
      have:=he j (by simpa using h1) (by simpa using h2)
      simpa using this)
     have e2:((List.range (min its.toArray.size its2.toArray.size)).all (fun j=>Zz ds es j) && its.toArray.size == its2.toArray.size)=pyEqs ds es:=by
      rw[List.size_toArray,List.size_toArray,←n1,←n2]
      by_cases hsz:ds.length=es.length
      ·rw[←ZC hsz,hsz];simp
      ·rw[ZE hsz];simp[hsz]
     rw[e2]at z;exact z
    refine⟨rc,?_⟩
    by_cases hab:a=b
    ·subst hab
     have:=Jck I hC hF _ _ (n+1) _ f1 f2 o1 o2 r1' r2'
     rw[this];exact EqAt.same _
    ·exact EqAt.of_refs hab rc
theorem rc_reps (I:Inv X pins σ H s) (hC:C.At X) (hF:Fr C H):∀(ds es:List D) (n:Nat) (A:Around) (vs ws:List V) (f1 f2:List Addr) (us us':List Value),eqOks n ds=true→eqOks n es=true→Reps C H ds vs f1→Reps C H es ws f2→Vals vs us→Vals ws us'→A.units+n+1 < cLine →
  ∀j (h1:j < us.length) (h2:j < us'.length),EqAt A s us[j] us'[j] (Zz ds es j)
 | [],es,n,A,vs,ws,f1,f2,us,us',o1,o2,r1,r2,q1,q2,hu=>fun j h1 h2=>by
  have:=YH r1 q1
  simp at this;omega
 | d::ds,[],n,A,vs,ws,f1,f2,us,us',o1,o2,r1,r2,q1,q2,hu=>fun j h1 h2=>by
  have:=YH r2 q2
  simp at this;omega
 | d::ds,e::es,n,A,vs,ws,f1,f2,us,us',o1,o2,⟨v,vs',g1,g2,e1,r1,rs1,_⟩,⟨w,ws',k1,k2,e2,r2,rs2,_⟩,q1,q2,hu=>fun j h1 h2=>by
  subst e1 e2
  simp only[eqOks,Bool.and_eq_true]at o1 o2
  cases q1 with
  | cons p1 q1 =>
   cases q2 with
   | cons p2 q2 =>
    cases j with
    | zero=>exact(Jdg I hC hF d e n A v w g1 k1 _ _ o1.1 o2.1 r1 r2 p1 p2 hu).2
    | succ j =>
     have:=rc_reps I hC hF ds es n A vs' ws' g2 k2 _ _ o1.2 o2.2 rs1 rs2 q1 q2 hu j (by simpa using h1) (by simpa using h2)
     simpa [Zz] using this
end
end
def pEq (d e:D):Option D:=if eqOk 40 d && eqOk 40 e then some (.bl (pyEq d e)) else none
def pNe (d e:D):Option D:=if eqOk 40 d && eqOk 40 e then some (.bl (!pyEq d e)) else none
theorem pEq_inv {d e z} (h:pEq d e=some z):eqOk 40 d=true∧eqOk 40 e=true∧z=.bl (pyEq d e):=by
 unfold pEq at h
 split at h
 ·rename_i q;cases h;have:=Bool.and_eq_true_iff.mp q;exact⟨this.1,this.2,rfl⟩
 ·cases h
theorem pNe_inv {d e z} (h:pNe d e=some z):eqOk 40 d=true∧eqOk 40 e=true∧z=.bl (!pyEq d e):=by
 unfold pNe at h
 split at h
 ·rename_i q;cases h;have:=Bool.and_eq_true_iff.mp q;exact⟨this.1,this.2,rfl⟩
 ·cases h
theorem UW {k:Nat} (hr:Room k X.A):OD2 X (compareOp .Eq) pEq:=by
 intro pins s σ H x y v u Q I rx ry ⟨C,dx,dy,fx,fy,d,hC,hF,r1,r2,e,kk⟩
 obtain⟨o1,o2,rfl⟩:=pEq_inv e
 have:=(Jdg I hC hF dx dy 40 X.A x y fx fy v u o1 o2 r1 r2 rx ry (by have:=hr.units;omega)).1
 exact this X.prog X.w X.xe _ ⟨.bl _,H,I,rfl,kk.here ⟨rfl,rfl⟩⟩
end
end VS
namespace VS
open PySem L2 SeqAt
section
variable {X:Cx} {W:WX} {M M1 M2 M3 Rs R1 R2 R3:List Nat} {e a b c:Expr} {es:List Expr} {ca cb cc:CE} {cs:CA} {pos:Pos}
variable {pins:List (Addr × Obj)} {σ:St} {H:Hp} {s:Shared} {C:Ctx}
theorem rcne_rep (I:Inv X pins σ H s) (hC:C.At X) (hF:Fr C H):∀(d e:D) (n:Nat) (A:Around) (v w:V) (f1 f2:List Addr) (u u':Value),eqOk n d=true→eqOk n e=true→Rep C H d v f1→Rep C H e w f2→RelV v u→RelV w u'→A.units+n+1 < cLine →
  RcNeAt A s u u' (!pyEq d e)
 | .ty i,e,n,A,v,w,f1,f2,u,u',o1,o2,r1,r2,q1,q2,hu=>by simp[eqOk]at o1
 | .ftu _,e,n,A,v,w,f1,f2,u,u',o1,o2,r1,r2,q1,q2,hu=>by simp[eqOk]at o1
 | .dct _ _ _,e,n,A,v,w,f1,f2,u,u',o1,o2,r1,r2,q1,q2,hu=>by simp[eqOk]at o1
 | .obj _ _ _ _,e,n,A,v,w,f1,f2,u,u',o1,o2,r1,r2,q1,q2,hu=>by simp[eqOk]at o1
 | .exc _ _ _,e,n,A,v,w,f1,f2,u,u',o1,o2,r1,r2,q1,q2,hu=>by simp[eqOk]at o1
 | .non,e,n,A,v,w,f1,f2,u,u',o1,o2,r1,r2,q1,q2,hu=>by
  obtain⟨rfl,_⟩:=r1
  cases (show u=Value.none from q1)
  cases e with
  | non=>obtain⟨rfl,_⟩:=r2;cases (show u'=Value.none from q2);exact RcNeAt.none_none
  | bl b=>obtain⟨rfl,_⟩:=r2;cases (show u'=Value.bool b from q2);exact RcNeAt.none_bool b
  | int j=>obtain⟨rfl,_⟩:=r2;obtain⟨t,rfl⟩:=q2;exact RcNeAt.none_int j t
  | str j=>obtain⟨rfl,_⟩:=r2;obtain⟨t,rfl⟩:=q2;exact RcNeAt.none_str j t
  | lst g es =>
   obtain⟨a,vs,f,rfl,q,rs⟩:=Jt hC hF r2
   cases (show u'=Value.ref a from q2)
   obtain⟨its,_,p,_⟩:=I.list q
   exact RcNeAt.none_list p.isList (by omega)
  | tup es =>
   obtain⟨a,vs,rfl,q,rs⟩:=JB hC r2
   cases (show u'=Value.ref a from q2)
   obtain⟨its,_,p,_⟩:=I.tuple q
   exact RcNeAt.none_tuple p (by omega)
  | ty _=>simp[eqOk]at o2
  | ftu _=>simp[eqOk]at o2
  | dct _ _ _=>simp[eqOk]at o2
  | obj _ _ _ _=>simp[eqOk]at o2
  | exc _ _ _=>simp[eqOk]at o2
 | .bl x,e,n,A,v,w,f1,f2,u,u',o1,o2,r1,r2,q1,q2,hu=>by
  obtain⟨rfl,_⟩:=r1
  cases (show u=Value.bool x from q1)
  cases e with
  | non=>obtain⟨rfl,_⟩:=r2;cases (show u'=Value.none from q2);exact RcNeAt.bool_none x
  | bl b=>obtain⟨rfl,_⟩:=r2;cases (show u'=Value.bool b from q2);exact RcNeAt.bool_bool x b
  | int j=>obtain⟨rfl,_⟩:=r2;obtain⟨t,rfl⟩:=q2;exact RcNeAt.bool_int x j t
  | str j=>obtain⟨rfl,_⟩:=r2;obtain⟨t,rfl⟩:=q2;exact RcNeAt.bool_str x j t
  | lst g es =>
   obtain⟨a,vs,f,rfl,q,rs⟩:=Jt hC hF r2
   cases (show u'=Value.ref a from q2)
   obtain⟨its,_,p,_⟩:=I.list q
   exact RcNeAt.bool_list x p.isList (by omega)
  | tup es =>
   obtain⟨a,vs,rfl,q,rs⟩:=JB hC r2
   cases (show u'=Value.ref a from q2)
   obtain⟨its,_,p,_⟩:=I.tuple q
   exact RcNeAt.bool_tuple x p (by omega)
  | ty _=>simp[eqOk]at o2
  | ftu _=>simp[eqOk]at o2
  | dct _ _ _=>simp[eqOk]at o2
  | obj _ _ _ _=>simp[eqOk]at o2
  | exc _ _ _=>simp[eqOk]at o2
 | .int x,e,n,A,v,w,f1,f2,u,u',o1,o2,r1,r2,q1,q2,hu=>by
  obtain⟨rfl,_⟩:=r1
  obtain⟨t0,rfl⟩:=q1
  cases e with
  | non=>obtain⟨rfl,_⟩:=r2;cases (show u'=Value.none from q2);exact RcNeAt.int_none x t0
  | bl b=>obtain⟨rfl,_⟩:=r2;cases (show u'=Value.bool b from q2);exact RcNeAt.int_bool x t0 b
  | int j=>obtain⟨rfl,_⟩:=r2;obtain⟨t,rfl⟩:=q2;exact RcNeAt.int_int x t0 j t
  | str j=>obtain⟨rfl,_⟩:=r2;obtain⟨t,rfl⟩:=q2;exact RcNeAt.int_str x t0 j t
  | lst g es =>
   obtain⟨a,vs,f,rfl,q,rs⟩:=Jt hC hF r2
   cases (show u'=Value.ref a from q2)
   obtain⟨its,_,p,_⟩:=I.list q
   exact RcNeAt.int_list x t0 p.isList (by omega)
  | tup es =>
   obtain⟨a,vs,rfl,q,rs⟩:=JB hC r2
   cases (show u'=Value.ref a from q2)
   obtain⟨its,_,p,_⟩:=I.tuple q
   exact RcNeAt.int_tuple x t0 p (by omega)
  | ty _=>simp[eqOk]at o2
  | ftu _=>simp[eqOk]at o2
  | dct _ _ _=>simp[eqOk]at o2
  | obj _ _ _ _=>simp[eqOk]at o2
  | exc _ _ _=>simp[eqOk]at o2
 | .str x,e,n,A,v,w,f1,f2,u,u',o1,o2,r1,r2,q1,q2,hu=>by
  obtain⟨rfl,_⟩:=r1
  obtain⟨t0,rfl⟩:=q1
  cases e with
  | non=>obtain⟨rfl,_⟩:=r2;cases (show u'=Value.none from q2);exact RcNeAt.str_none x t0
  | bl b=>obtain⟨rfl,_⟩:=r2;cases (show u'=Value.bool b from q2);exact RcNeAt.str_bool x t0 b
  | int j=>obtain⟨rfl,_⟩:=r2;obtain⟨t,rfl⟩:=q2;exact RcNeAt.str_int x t0 j t
  | str j=>obtain⟨rfl,_⟩:=r2;obtain⟨t,rfl⟩:=q2;exact RcNeAt.str_str x t0 j t
  | lst g es =>
   obtain⟨a,vs,f,rfl,q,rs⟩:=Jt hC hF r2
   cases (show u'=Value.ref a from q2)
   obtain⟨its,_,p,_⟩:=I.list q
   exact RcNeAt.str_list x t0 p.isList (by omega)
  | tup es =>
   obtain⟨a,vs,rfl,q,rs⟩:=JB hC r2
   cases (show u'=Value.ref a from q2)
   obtain⟨its,_,p,_⟩:=I.tuple q
   exact RcNeAt.str_tuple x t0 p (by omega)
  | ty _=>simp[eqOk]at o2
  | ftu _=>simp[eqOk]at o2
  | dct _ _ _=>simp[eqOk]at o2
  | obj _ _ _ _=>simp[eqOk]at o2
  | exc _ _ _=>simp[eqOk]at o2
 | .lst g ds,e,n,A,v,w,f1,f2,u,u',o1,o2,r1,r2,q1,q2,hu=>by
  have r1':=r1
  have r2':=r2
  have q2':=q2
  obtain⟨a,vs,f,rfl,q,rs⟩:=Jt hC hF r1
  cases (show u=Value.ref a from q1)
  obtain⟨its,rv,p,_⟩:=I.list q
  have hi:=p.isList
  cases e with
  | non=>obtain⟨rfl,_⟩:=r2;cases (show u'=Value.none from q2);exact RcNeAt.list_none hi (by omega)
  | bl b=>obtain⟨rfl,_⟩:=r2;cases (show u'=Value.bool b from q2);exact RcNeAt.list_bool b hi (by omega)
  | int j=>obtain⟨rfl,_⟩:=r2;obtain⟨t,rfl⟩:=q2;exact RcNeAt.list_int j t hi (by omega)
  | str j=>obtain⟨rfl,_⟩:=r2;obtain⟨t,rfl⟩:=q2;exact RcNeAt.list_str j t hi (by omega)
  | tup es =>
   obtain⟨b,ws,rfl,k,rs2⟩:=JB hC r2
   cases (show u'=Value.ref b from q2)
   obtain⟨its2,_,p2,_⟩:=I.tuple k
   exact RcNeAt.list_tuple hi p2 (by omega)
  | ty _=>simp[eqOk]at o2
  | ftu _=>simp[eqOk]at o2
  | dct _ _ _=>simp[eqOk]at o2
  | obj _ _ _ _=>simp[eqOk]at o2
  | exc _ _ _=>simp[eqOk]at o2
  | lst g2 es =>
   cases n with
   | zero=>simp[eqOk]at o1
   | succ n =>
    obtain⟨b,ws,f',rfl,k,rs2⟩:=Jt hC hF r2
    cases (show u'=Value.ref b from q2)
    obtain⟨its2,rv2,p2,_⟩:=I.list k
    have hi2:=p2.isList
    have n1:=YH rs rv
    have n2:=YH rs2 rv2
    have he:=rc_reps I hC hF ds es n A.in1 vs ws f f' its its2 (by simpa [eqOk] using o1) (by simpa [eqOk] using o2) rs rs2 rv rv2 (by show A.units+1+n+1 < cLine;omega)
    show RcNeAt A s (.ref a) (.ref b) (!pyEqs ds es)
    by_cases hsz:ds.length=es.length
    ·rw[←ZC hsz,n1]
     have:=RcNeAt.lists (A:=A) (e:=fun j=>Zz ds es j) hi hi2 (by simp;omega) (by omega) (fun j h1 h2=>by
      have:=he j (by simpa using h1) (by simpa using h2)
      simpa using this)
     simpa using this
    ·rw[ZE hsz]
     exact RcNeAt.lists_lengths hi hi2 (by simp;omega) (by omega)
 | .tup ds,e,n,A,v,w,f1,f2,u,u',o1,o2,r1,r2,q1,q2,hu=>by
  have r1':=r1
  have r2':=r2
  obtain⟨a,vs,rfl,q,rs⟩:=JB hC r1
  cases (show u=Value.ref a from q1)
  obtain⟨its,rv,p,_⟩:=I.tuple q
  have hi:s.heap.IsTuple a its.toArray:=p
  cases e with
  | non=>obtain⟨rfl,_⟩:=r2;cases (show u'=Value.none from q2);exact RcNeAt.tuple_none hi (by omega)
  | bl b=>obtain⟨rfl,_⟩:=r2;cases (show u'=Value.bool b from q2);exact RcNeAt.tuple_bool b hi (by omega)
  | int j=>obtain⟨rfl,_⟩:=r2;obtain⟨t,rfl⟩:=q2;exact RcNeAt.tuple_int j t hi (by omega)
  | str j=>obtain⟨rfl,_⟩:=r2;obtain⟨t,rfl⟩:=q2;exact RcNeAt.tuple_str j t hi (by omega)
  | lst g es =>
   obtain⟨b,ws,f,rfl,k,rs2⟩:=Jt hC hF r2
   cases (show u'=Value.ref b from q2)
   obtain⟨its2,_,p2,_⟩:=I.list k
   exact RcNeAt.tuple_list hi p2.isList (by omega)
  | ty _=>simp[eqOk]at o2
  | ftu _=>simp[eqOk]at o2
  | dct _ _ _=>simp[eqOk]at o2
  | obj _ _ _ _=>simp[eqOk]at o2
  | exc _ _ _=>simp[eqOk]at o2
  | tup es =>
   cases n with
   | zero=>simp[eqOk]at o1
   | succ n =>
    obtain⟨b,ws,rfl,k,rs2⟩:=JB hC r2
    cases (show u'=Value.ref b from q2)
    obtain⟨its2,rv2,p2,_⟩:=I.tuple k
    have hi2:s.heap.IsTuple b its2.toArray:=p2
    have n1:=YH rs rv
    have n2:=YH rs2 rv2
    have he:=rc_reps I hC hF ds es n A.in1 vs ws f1 f2 its its2 (by simpa [eqOk] using o1) (by simpa [eqOk] using o2) rs rs2 rv rv2 (by show A.units+1+n+1 < cLine;omega)
    show RcNeAt A s (.ref a) (.ref b) (!pyEqs ds es)
    have z:=RcNeAt.tuples (A:=A) (e:=fun j=>Zz ds es j) hi hi2 (by omega) (fun j h1 h2=>by
     have:=he j (by simpa using h1) (by simpa using h2)
     simpa using this)
    have e2:((List.range (min its.toArray.size its2.toArray.size)).all (fun j=>Zz ds es j) && its.toArray.size == its2.toArray.size)=pyEqs ds es:=by
     rw[List.size_toArray,List.size_toArray,←n1,←n2]
     by_cases hsz:ds.length=es.length
     ·rw[←ZC hsz,hsz];simp
     ·rw[ZE hsz];simp[hsz]
    rw[e2]at z;exact z
theorem QB {k:Nat} (hr:Room k X.A):OD2 X (compareOp .NotEq) pNe:=by
 intro pins s σ H x y v u Q I rx ry ⟨C,dx,dy,fx,fy,d,hC,hF,r1,r2,e,kk⟩
 obtain⟨o1,o2,rfl⟩:=pNe_inv e
 have:=rcne_rep I hC hF dx dy 40 X.A x y fx fy v u o1 o2 r1 r2 rx ry (by have:=hr.units;omega)
 exact this X.prog X.w X.xe _ ⟨.bl _,H,I,rfl,kk.here ⟨rfl,rfl⟩⟩
def cAnd (ca cb:CE):CE:=fun env=>(ca env).bind fun d env=>match d with
 | .bl true=>cb env
 | .bl false=>.ok (.bl false) env
 | _=>.err
def cNot (ca:CE):CE:=fun env=>(ca env).bind fun d env=>match d with
 | .bl b=>.ok (.bl (!b)) env
 | _=>.err
theorem seqO {fs:FPs} {env:Env} {H:Hp} {tf:List Addr} {Q:VK} {f:D→CE} {t:TE} (hC:C.At X) (G:Good C fs env σ H tf)
  (ht:∀C fs env σ H tf Q,C.At X→Good C fs env σ H tf→Jc0 W C M1 R1 tf fs env σ H Q (ca env)→t σ H Q)
  (po:Yw W C (M1++M2) tf fs env σ H Q ((ca env).bind f)) {K:VK}
  (hK:∀d v fs1 env1 H1 fp own,Good C fs1 env1 σ H1 (own++tf)→Step M1 tf fs env H fs1 env1 H1→Rep C H1 d v fp→In R1 own fs1 fp→Yw W C (M1++M2) tf fs env σ H Q (f d env1)→K v H1):t σ H K:=by
 refine ht C fs env σ H tf _ hC G ?_
 cases e1:ca env with
 | err=>rw[e1]at po;exact po
 | ex x env' =>
  rw[e1]at po
  exact fun cv dd fs' H' G' s=>po cv dd fs' H' G' (s.weak (fun i hi=>List.mem_append_left _ hi) fun _ z=>z)
 | ok d env1 =>
  rw[e1]at po
  exact fun v fs1 H1 fp own G1 s1 r1 i1=>hK d v fs1 env1 H1 fp own G1 s1 r1 i1 po
theorem Yw.step {fs fs1:FPs} {env env1:Env} {H H1:Hp} {tf:List Addr} {Q:VK} {z:R D} (s1:Step M1 tf fs env H fs1 env1 H1) (po:Yw W C (M1++M2) tf fs env σ H Q z):Yw W C M2 tf fs1 env1 σ H1 Q z:=by
 cases z with
 | err=>exact po
 | ex x env'=>exact fun cv dd fs' H' G' s=>po cv dd fs' H' G' (s1.trans s)
 | ok d env'=>exact fun v fs' H' fp G' s r=>po v fs' H' fp G' (s1.trans s) r
theorem Yw.done {fs fs1:FPs} {env env1:Env} {H H1:Hp} {tf:List Addr} {Q:VK} {d:D} {v:V} (s1:Step M1 tf fs env H fs1 env1 H1) (po:Yw W C (M1++M2) tf fs env σ H Q (.ok d env1)) (G1:Good C fs1 env1 σ H1 tf) (r:Rep C H1 d v []):Q v H1 :=
 po v fs1 H1 [] (by simpa using G1) (s1.weak (fun i hi=>List.mem_append_left _ hi) fun _ z=>z) r
theorem QG (ha:SB X W M1 R1 a ca) (hb:SO X W M2 (.BoolOp .And (b::es) pos) cb):SO X W (M1++M2) (.BoolOp .And (a::b::es) pos) (cAnd ca cb):=by
 obtain⟨t,p,q⟩:=ha.go
 obtain⟨t2,p2,q2⟩:=hb.go
 refine⟨tAndV t t2,pe_and p p2,fun C fs env σ H tf Q hC G po=>?_⟩
 refine seqO (M1:=M1) (M2:=M2) (R1:=R1) (ca:=ca) hC G q po fun d v fs1 env1 H1 fp own G1 s1 r1 i1 po1=>?_
 cases d with
 | bl k =>
  obtain⟨rfl,_⟩:=r1
  refine⟨k,rfl,?_⟩
  cases k with
  | true=>exact q2 C fs1 env1 σ H1 tf Q hC G1.drop (po1.step s1)
  | false=>exact po1.done s1 G1.drop ⟨rfl,rfl⟩
 | _=>exact po1.elim
theorem Jaz {op} (ha:SO X W M1 a ca):SO X W M1 (.BoolOp op [a] pos) ca:=by
 obtain⟨t,p,q⟩:=ha.go
 exact⟨t,pe_one p,q⟩
theorem Jem (ha:SB X W M1 R1 a ca):SO X W M1 (.UnaryOp .Not a pos) (cNot ca):=by
 obtain⟨t,p,q⟩:=ha.go
 refine⟨tNotV t,pe_not p,fun C fs env σ H tf Q hC G po=>?_⟩
 refine seqO (M1:=M1) (M2:=[]) (R1:=R1) (ca:=ca) hC G q (by rw[List.append_nil];exact po) fun d v fs1 env1 H1 fp own G1 s1 r1 i1 po1=>?_
 cases d with
 | bl k =>
  obtain⟨rfl,_⟩:=r1
  exact⟨k,rfl,po1.done s1 G1.drop ⟨rfl,rfl⟩⟩
 | _=>exact po1.elim
variable {ct:CT}
end
end VS
namespace VS
open PySem L2 SeqAt
section
variable {X:Cx} {W:WX} {M M1 M2 M3 Rs R1 R2 R3:List Nat} {e a b c:Expr} {es:List Expr} {ca cb cc:CE} {cs:CA} {pos p:Pos}
variable {pins:List (Addr × Obj)} {σ:St} {H:Hp} {s:Shared} {C:Ctx}
def D.key:D→Option Key
 | .int i=>some (.inl i)
 | .str s=>some (.inr s)
 | _=>none
theorem Jcp {d:D} {k:Key} {v:V} {fp} (h:d.key=some k) (r:Rep C H d v fp):v=kV k:=by
 cases d<;>simp[D.key]at h<;>subst h
 ·exact r.1
 ·exact r.1
def Uq:List Key→List D→Key→Option D
 | k0::ks,d::ds,k=>if k0=k then some d else Uq ks ds k
 | _,_,_=>none
theorem Jbv:∀{kvs:List (Key × V)} {ds:List D} {fp:List Addr} {k:Key} {d:D},Reps C H ds (kvs.map (·.2)) fp→Uq (kvs.map (·.1)) ds k=some d →
  ∃v g1 f g2,valV kvs k=some v∧Rep C H d v f∧fp=g1++f++g2
 | [],ds,fp,k,d,r,h=>by simp[Uq]at h
 | kv::kvs,[],fp,k,d,r,h=>by simp[Uq]at h
 | kv::kvs,d0::ds,fp,k,d,⟨v,vs',f1,f2,e,r,rs,e2⟩,h=>by
  simp only[List.map_cons,List.cons.injEq]at e
  obtain⟨rfl,rfl⟩:=e
  simp only[List.map_cons,Uq]at h
  by_cases hk:kv.1=k
  ·rw[if_pos hk]at h
   cases h
   exact⟨kv.2,[],f1,f2,valV_pos hk,r,by simpa using e2⟩
  ·rw[if_neg hk]at h
   obtain⟨w,g1,f,g2,h1,h2,h3⟩:=Jbv rs h
   exact⟨w,f1++g1,f,g2,by rw[valV_neg hk];exact h1,h2,by rw[e2,h3];simp[List.append_assoc]⟩
theorem JbT:∀{kvs:List (Key × V)} {ds:List D} {fp:List Addr} {k:Key},Reps C H ds (kvs.map (·.2)) fp→Uq (kvs.map (·.1)) ds k=none→valV kvs k=none
 | [],ds,fp,k,r,h=>rfl
 | kv::kvs,[],fp,k,⟨h1,_⟩,h=>by simp at h1
 | kv::kvs,d0::ds,fp,k,⟨v,vs',f1,f2,e,r,rs,e2⟩,h=>by
  simp only[List.map_cons,List.cons.injEq]at e
  obtain⟨rfl,rfl⟩:=e
  simp only[List.map_cons,Uq]at h
  by_cases hk:kv.1=k
  ·rw[if_pos hk]at h;cases h
  ·rw[if_neg hk]at h
   rw[valV_neg hk];exact JbT rs h
theorem Jae {g ks ds v fp} (hF:Fr C H) (r:Rep C H (.dct g ks ds) v fp):∃a kvs f1 f,v=.ref a∧Rd H a (.dK kvs)∧kvs.map (·.1)=ks∧Reps C H ds (kvs.map (·.2)) f∧fp=f1++f:=by
 obtain⟨a,kvs,f1,f2,e,n,q,r,_,e2⟩:=r
 exact⟨a,kvs,f1,f2,e,(Nd.rd n hF).rd (fun xs z=>nomatch z),q.1,r,e2⟩
theorem JcB {ds:List D} {vs:List V} {fp:List Addr} {i:Int} {d:D} (r:Reps C H ds vs fp) (h:atI ds i=some d):∃v g1 f g2,atI vs i=some v∧Rep C H d v f∧fp=g1++f++g2:=by
 unfold atI at h ⊢
 rw[Jh r]at h
 cases e:ixN vs.length i with
 | none=>rw[e]at h;cases h
 | some j =>
  rw[e]at h
  exact Qd r h
def ixD:D→D→Option D
 | .lst _ ds,.int i=>atI ds i
 | .tup ds,.int i=>atI ds i
 | .str s,.int i=>if s.length≤sizeLine then (atI s.cps.toList i).map fun c=>.str ⟨#[c]⟩ else none
 | .dct _ ks ds,k=>k.key.bind fun k=>Uq ks ds k
 | _,_=>none
def rIxD:L2.R2:=fun x y H Q=>∃a v,x=.ref a∧DGet H a y (some v)∧Q v H
theorem ix_dict {k:Nat} (hr:Room k X.A):IxR X rIxD:=by
 intro value slice pins s σ H x y v u Q I rx ry h hs
 obtain⟨a,z,rfl,g,q⟩:=h
 cases rx
 refine PyProof.Rows.tail_any (ops:=[.ref a,u]) (dict_typeIs I g) PySem.F.slot_dict_getitem.lookup ?_ hs
 exact d_getItem (by have:=hr.units;omega) I g ry fun w' s' I' r'=>⟨z,H,I',r',q⟩
def cIdx (ca cb:CE):CE:=c2 ixD ca cb
theorem JC {k:Nat} (hr:Room k X.A) (ha:SB X W M1 R1 a ca) (hb:SB X W M2 R2 b cb) (hs:PlainIx b:=by exact fun _ _=>rfl) (hd:djB R1 M2=true:=by decide):SB X W (M1++M2) R1 (.Subscript a b pos) (cIdx ca cb):=by
 obtain⟨ta,tb,pa,pb,q⟩:=Jcq ha hb hd
 refine⟨tOp (fun x y H Q=>rIx X.K x y H Q∨rIxD x y H Q) ta tb,pe_ix (ix_seq.or (ix_dict hr)) pa pb hs,fun C fs env σ H tf Q hC G po=>q C fs env σ H tf _ hC G ?_⟩
 unfold cIdx c2 at po
 cases e1:cTwo ca cb env with
 | err=>rw[e1]at po;exact po
 | ex x env'=>rw[e1]at po;exact po
 | ok d env' =>
  rw[e1]at po
  intro x y fs' H' f1 f2 own G' s r1 r2 i1 i2
  have po':Jc0 W C (M1++M2) R1 tf fs env σ H Q (R.of (ixD d.1 d.2) env'):=po
  cases e2:ixD d.1 d.2 with
  | none=>rw[e2]at po';exact po'.elim
  | some z =>
   rw[e2]at po'
   obtain⟨d1,d2⟩:=d
   have sub:∀{g1 f g2:List Addr},(∀b∈g1++f++g2,b∈f1)→In R1 own fs' f:=fun {g1 f g2} h b hb=>i1 b (h b (by simp[hb]))
   have fin:∀(v:V) (g1 f g2:List Addr),Rep C H' z v f→(∀b∈g1++f++g2,b∈f1)→Q v H':=fun v g1 f g2 rv hf=>po' v fs' H' f own G' s rv (sub hf)
   cases d1 with
   | lst g ds =>
    cases d2 with
    | int i =>
     obtain⟨ad,vs,g1,g2,rfl,n,rs,_,ef⟩:=r1
     obtain⟨rfl,_⟩:=r2
     obtain⟨v,k1,f,k2,h1,h2,h3⟩:=JcB rs e2
     refine .inl (.inl ⟨ad,vs,i,v,rfl,rfl,by have:=(Nd.rd n G'.fr).sql;rwa[hC.1]at this,h1,fin v k1 f k2 h2 fun b hb=>?_⟩)
     rw[ef,h3];exact List.mem_append_right _ hb
    | _=>simp[ixD]at e2
   | tup ds =>
    cases d2 with
    | int i =>
     obtain⟨ad,vs,rfl,n,rs⟩:=r1
     obtain⟨rfl,_⟩:=r2
     obtain⟨v,k1,f,k2,h1,h2,h3⟩:=JcB rs e2
     refine .inl (.inr (.inl ⟨ad,vs,i,v,rfl,rfl,by rwa[hC.1]at n,h1,fin v k1 f k2 h2 fun b hb=>?_⟩))
     rw[h3];exact hb
    | _=>simp[ixD]at e2
   | str z0 =>
    cases d2 with
    | int i =>
     obtain⟨rfl,_⟩:=r1
     obtain⟨rfl,_⟩:=r2
     simp only[ixD]at e2
     split at e2
     ·rename_i hz
      obtain⟨ch,h1,rfl⟩:=Option.map_eq_some_iff.mp e2
      exact .inl (.inr (.inr ⟨z0,i,ch,rfl,rfl,hz,h1,fin _ [] [] [] ⟨rfl,rfl⟩ (fun b hb=>by simp at hb)⟩))
     ·cases e2
    | _=>simp[ixD]at e2
   | dct g ks ds =>
    obtain⟨ad,kvs,g1,g2,rfl,hd',hk,rs,ef⟩:=Jae G'.fr r1
    cases hk2:d2.key with
    | none=>simp[ixD,hk2]at e2
    | some ky =>
     simp only[ixD,hk2,Option.bind_some]at e2
     rw[←hk]at e2
     obtain⟨v,k1,f,k2,h1,h2,h3⟩:=Jbv rs e2
     have ey:=Jcp hk2 r2
     refine .inr ⟨ad,v,rfl,.inl ⟨kvs,ky,hd',ey,h1.symm⟩,fin v k1 f k2 h2 fun b hb=>?_⟩
     rw[ef,h3];exact List.mem_append_right _ hb
   | _=>simp[ixD]at e2
mutual
theorem Jdp (I:Inv X pins σ H s) (hC:C.At X) (hF:Fr C H):∀(d e:D) (n:Nat) (v:V) (f1 f2:List Addr),eqOk n d=true→eqOk n e=true→Rep C H d v f1→Rep C H e v f2→∀x,pyEq d x=pyEq e x
 | .non,e,n,v,f1,f2,o1,o2,r1,r2=>by
  obtain⟨rfl,_⟩:=r1
  cases e<;>(try (simp[eqOk]at o2;done))<;>simp[Rep]at r2<;>exact fun _=>rfl
 | .bl b,e,n,v,f1,f2,o1,o2,r1,r2=>by
  obtain⟨rfl,_⟩:=r1
  cases e<;>(try (simp[eqOk]at o2;done))<;>simp[Rep]at r2
  rw[r2.1];exact fun _=>rfl
 | .int i,e,n,v,f1,f2,o1,o2,r1,r2=>by
  obtain⟨rfl,_⟩:=r1
  cases e<;>(try (simp[eqOk]at o2;done))<;>simp[Rep]at r2
  rw[r2.1];exact fun _=>rfl
 | .str i,e,n,v,f1,f2,o1,o2,r1,r2=>by
  obtain⟨rfl,_⟩:=r1
  cases e<;>(try (simp[eqOk]at o2;done))<;>simp[Rep]at r2
  rw[r2.1];exact fun _=>rfl
 | .ty i,e,n,v,f1,f2,o1,o2,r1,r2=>by simp[eqOk]at o1
 | .ftu _,e,n,v,f1,f2,o1,o2,r1,r2=>by simp[eqOk]at o1
 | .dct _ _ _,e,n,v,f1,f2,o1,o2,r1,r2=>by simp[eqOk]at o1
 | .obj _ _ _ _,e,n,v,f1,f2,o1,o2,r1,r2=>by simp[eqOk]at o1
 | .exc _ _ _,e,n,v,f1,f2,o1,o2,r1,r2=>by simp[eqOk]at o1
 | .lst g ds,e,n,v,f1,f2,o1,o2,r1,r2=>by
  obtain⟨a,vs,f,rfl,q,rs⟩:=Jt hC hF r1
  cases n with
  | zero=>simp[eqOk]at o1
  | succ n =>
   cases e with
   | lst g2 es =>
    obtain⟨b,ws,f',e1,q2,rs2⟩:=Jt hC hF r2
    cases e1
    rw[I.list_inj q2 q]at rs2
    have h:=eqs_cong I hC hF ds es n vs f f' (by simpa [eqOk] using o1) (by simpa [eqOk] using o2) rs rs2
    intro x
    cases x<;>simp only[pyEq]
    exact h _
   | tup es =>
    obtain⟨b,ws,e1,q2,rs2⟩:=JB hC r2
    cases e1
    exact(ltu I q q2).elim
   | ty _=>simp[eqOk]at o2
   | ftu _=>simp[eqOk]at o2
   | dct _ _ _=>simp[eqOk]at o2
   | obj _ _ _ _=>simp[eqOk]at o2
   | exc _ _ _=>simp[eqOk]at o2
   | _=>simp[Rep]at r2
 | .tup ds,e,n,v,f1,f2,o1,o2,r1,r2=>by
  obtain⟨a,vs,rfl,q,rs⟩:=JB hC r1
  cases n with
  | zero=>simp[eqOk]at o1
  | succ n =>
   cases e with
   | tup es =>
    obtain⟨b,ws,e1,q2,rs2⟩:=JB hC r2
    cases e1
    rw[I.tuple_inj q2 q]at rs2
    have h:=eqs_cong I hC hF ds es n vs f1 f2 (by simpa [eqOk] using o1) (by simpa [eqOk] using o2) rs rs2
    intro x
    cases x<;>simp only[pyEq]
    exact h _
   | lst g es =>
    obtain⟨b,ws,f,e1,q2,rs2⟩:=Jt hC hF r2
    cases e1
    exact(ltu I q2 q).elim
   | ty _=>simp[eqOk]at o2
   | ftu _=>simp[eqOk]at o2
   | dct _ _ _=>simp[eqOk]at o2
   | obj _ _ _ _=>simp[eqOk]at o2
   | exc _ _ _=>simp[eqOk]at o2
   | _=>simp[Rep]at r2
theorem eqs_cong (I:Inv X pins σ H s) (hC:C.At X) (hF:Fr C H):∀(ds es:List D) (n:Nat) (vs:List V) (f1 f2:List Addr),eqOks n ds=true→eqOks n es=true→Reps C H ds vs f1→Reps C H es vs f2→∀xs,pyEqs ds xs=pyEqs es xs
 | [],es,n,vs,f1,f2,o1,o2,r1,r2=>by
  have:=Jh r1
  have h2:=Jh r2
  cases es with
  | nil=>exact fun _=>rfl
  | cons e es=>simp at this h2;omega
 | d::ds,[],n,vs,f1,f2,o1,o2,r1,r2=>by
  have:=Jh r1
  have h2:=Jh r2
  simp at this h2;omega
 | d::ds,e::es,n,vs,f1,f2,o1,o2,⟨v,vs',g1,g2,e1,r1,rs1,_⟩,⟨w,ws',k1,k2,e2,r2,rs2,_⟩=>by
  rw[e1]at e2;cases e2
  simp only[eqOks,Bool.and_eq_true]at o1 o2
  intro xs
  cases xs with
  | nil=>rfl
  | cons x xs=>rw[pyEqs,pyEqs,Jdp I hC hF d e n v g1 k1 o1.1 o2.1 r1 r2 x,eqs_cong I hC hF ds es n vs' g2 k2 o1.2 o2.2 rs1 rs2 xs]
end
theorem Qr:∀{ds:List D} {n i:Nat} {d:D},eqOks n ds=true→ds[i]?=some d→eqOk n d=true
 | [],n,i,d,_,h=>by simp at h
 | d0::ds,n,0,d,h,e=>by simp at e;subst e;simp only[eqOks,Bool.and_eq_true]at h;exact h.1
 | d0::ds,n,i+1,d,h,e=>by simp only[eqOks,Bool.and_eq_true]at h;exact Qr h.2 (by simpa using e)
open Classical in
noncomputable def inE (us:List Value) (ds:List D) (x:D) (y:Value):Bool:=decide (∃(j:Nat) (d:D),us[j]?=some y∧ds[j]?=some d∧pyEq d x=true)
theorem Qq {vs:List V} {us:List Value} (r:Vals vs us) {j:Nat} {u:Value} (h:us[j]?=some u):∃v,vs[j]?=some v∧RelV v u:=by
 have hl:=r.length
 have hj:j < vs.length:=by rw[hl];exact(List.getElem?_eq_some_iff.mp h).1
 obtain⟨u',h1,h2⟩:=r.get (i:=j) (x:=vs[j]) (by simp[hj])
 rw[h]at h1;cases h1
 exact⟨vs[j],by simp[hj],h2⟩
theorem Jet (I:Inv X pins σ H s) (hC:C.At X) (hF:Fr C H) {ds:List D} {x:D} {vs:List V} {us:List Value} {w:V} {xu:Value} {f1 f2:List Addr} {A:Around} (o1:eqOks 40 ds=true) (o2:eqOk 40 x=true) (rs:Reps C H ds vs f1) (rv:Vals vs us)
  (rx:Rep C H x w f2) (rw':RelV w xu) (hu:A.units+41 < cLine):(∀y∈us,EqAt A s y xu (inE us ds x y))∧us.any (inE us ds x)=ds.any (fun d=>pyEq d x):=by
 have hl:=YH rs rv
 have val:∀(j:Nat) (u:Value) (d:D),us[j]?=some u→ds[j]?=some d→inE us ds x u=pyEq d x:=by
  intro j u d hj hd
  unfold inE
  obtain⟨v,g1,f,g2,hv,r,_⟩:=Qd rs hd
  obtain⟨v2,hv2,rv2⟩:=Qq rv hj
  rw[hv]at hv2;cases hv2
  cases q:pyEq d x with
  | true =>
   classical
   exact decide_eq_true ⟨j,d,hj,hd,q⟩
  | false =>
   classical
   refine decide_eq_false ?_
   rintro ⟨j',d',hj',hd',q'⟩
   obtain⟨v',_,f',_,hv',r',_⟩:=Qd rs hd'
   obtain⟨v3,hv3,rv3⟩:=Qq rv hj'
   rw[hv']at hv3;cases hv3
   have:v'=v:=rv3.inj rv2
   subst this
   rw[Jdp I hC hF d' d 40 v' f' f (Qr o1 hd') (Qr o1 hd) r' r x]at q'
   rw[q]at q';cases q'
 refine⟨fun y hy=>?_,?_⟩
 ·obtain⟨j,hj⟩:=List.mem_iff_getElem?.mp hy
  have hjl:j < ds.length:=by rw[hl];exact(List.getElem?_eq_some_iff.mp hj).1
  have hd:ds[j]?=some ds[j]:=by simp[hjl]
  obtain⟨v,g1,f,g2,hv,r,_⟩:=Qd rs hd
  obtain⟨v2,hv2,rv2⟩:=Qq rv hj
  rw[hv]at hv2;cases hv2
  rw[val j y _ hj hd]
  exact(Jdg I hC hF ds[j] x 40 A v w f f2 y xu (Qr o1 hd) o2 r rx rv2 rw' (by omega)).2
 ·rw[Bool.eq_iff_iff,List.any_eq_true,List.any_eq_true]
  constructor
  ·rintro ⟨y,hy,q⟩
   obtain⟨j,hj⟩:=List.mem_iff_getElem?.mp hy
   have hjl:j < ds.length:=by rw[hl];exact(List.getElem?_eq_some_iff.mp hj).1
   have hd:ds[j]?=some ds[j]:=by simp[hjl]
   exact⟨ds[j],List.getElem_mem hjl,by rw[←val j y _ hj hd];exact q⟩
  ·rintro ⟨d,hd,q⟩
   obtain⟨j,hj⟩:=List.mem_iff_getElem?.mp hd
   have hjl:j < us.length:=by rw[←hl];exact(List.getElem?_eq_some_iff.mp hj).1
   have hd':us[j]?=some us[j]:=by simp[hjl]
   exact⟨us[j],List.getElem_mem hjl,by rw[val j _ d hd' hj];exact q⟩
def inB:D→D→Option Bool
 | x,.lst _ ds=>if eqOk 40 x && eqOks 40 ds then some (ds.any fun d=>pyEq d x) else none
 | x,.tup ds=>if eqOk 40 x && eqOks 40 ds then some (ds.any fun d=>pyEq d x) else none
 | x,.dct _ ks ds=>x.key.map fun k=>(Uq ks ds k).isSome
 | .str i,.str j=>some (!(Builtin.Str.occurrences j i 0 j.length 1).isEmpty)
 | _,_=>none
def pIn (x y:D):Option D:=(inB x y).map .bl
def QN (x y:D):Option D:=(inB x y).map fun b=>.bl (!b)
theorem JdY {op:CmpOp} {neg:Bool} {kk:Nat} (hr:Room kk X.A)
  (hlist:∀{s:Shared} {l:Addr} {items:Array Value} {x:Value} {Q:Value→Shared→Prop} (e:Value→Bool),s.heap.IsList l items→(∀y,y∈items→EqAt X.A.in1 s y x (e y))→Q (.bool (if neg then !items.any e else items.any e)) s→wpAny (model X.prog X.w) X.A (compareOp op x (.ref l)) Q X.xe s)
  (htup:∀{s:Shared} {l:Addr} {items:Array Value} {x:Value} {Q:Value→Shared→Prop} (e:Value→Bool),s.heap.IsTuple l items→(∀y,y∈items→EqAt X.A.in1 s y x (e y))→Q (.bool (if neg then !items.any e else items.any e)) s→wpAny (model X.prog X.w) X.A (compareOp op x (.ref l)) Q X.xe s)
  (hdic:∀{pins s σ H a y u o} {Q:Value→Shared→Prop},Inv X pins σ H s→DGet H a y o→RelV y u→(∀s',Inv X pins σ H s'→Q (.bool (if neg then !o.isSome else o.isSome)) s')→wpAny (model X.prog X.w) X.A (compareOp op u (.ref a)) Q X.xe s)
  (hstr:OpR X (compareOp op) (fun x y H Q=>∃i j,x=.str i∧y=.str j∧Q (.bl (if neg then !(!(Builtin.Str.occurrences j i 0 j.length 1).isEmpty) else !(Builtin.Str.occurrences j i 0 j.length 1).isEmpty)) H)) :
  OD2 X (compareOp op) (fun x y=>(inB x y).map fun b=>.bl (if neg then !b else b)):=by
 intro pins s σ H x y v u Q I rx ry ⟨C,dx,dy,fx,fy,d,hC,hF,r1,r2,e,kk⟩
 obtain⟨b,hb,rfl⟩:=Option.map_eq_some_iff.mp e
 have q:=kk.here (v:=.bl (if neg then !b else b)) ⟨rfl,rfl⟩
 have hun:=hr.units
 have hin1:X.A.in1.units+41 < cLine:=by show X.A.units+1+41 < cLine;omega
 cases dy with
 | lst g ds =>
  have hb':(if eqOk 40 dx && eqOks 40 ds then some (ds.any fun d=>pyEq d dx) else none)=some b:=by cases dx<;>exact hb
  split at hb'
  ·rename_i ho
   cases hb'
   have ho:=Bool.and_eq_true_iff.mp ho
   obtain⟨a,vs,f,rfl,qa,rs⟩:=Jt hC hF r2
   cases (show u=Value.ref a from ry)
   obtain⟨its,rv,pl,_⟩:=I.list qa
   obtain⟨h1,h2⟩:=Jet I hC hF (A:=X.A.in1) ho.2 ho.1 rs rv r1 rx hin1
   refine hlist (inE its ds dx) pl.isList (fun y hy=>h1 y (by simpa using hy)) ⟨.bl _,H,I,?_,q⟩
   rw[List.any_toArray,h2];rfl
  ·cases hb'
 | tup ds =>
  have hb':(if eqOk 40 dx && eqOks 40 ds then some (ds.any fun d=>pyEq d dx) else none)=some b:=by cases dx<;>exact hb
  split at hb'
  ·rename_i ho
   cases hb'
   have ho:=Bool.and_eq_true_iff.mp ho
   obtain⟨a,vs,rfl,qa,rs⟩:=JB hC r2
   cases (show u=Value.ref a from ry)
   obtain⟨its,rv,pl,_⟩:=I.tuple qa
   obtain⟨h1,h2⟩:=Jet I hC hF (A:=X.A.in1) ho.2 ho.1 rs rv r1 rx hin1
   refine htup (inE its ds dx) (show s.heap.IsTuple a its.toArray from pl) (fun y hy=>h1 y (by simpa using hy)) ⟨.bl _,H,I,?_,q⟩
   rw[List.any_toArray,h2];rfl
  ·cases hb'
 | dct g ks ds =>
  have hb':(dx.key.map fun k=>(Uq ks ds k).isSome)=some b:=by cases dx<;>exact hb
  obtain⟨ky,hk,rfl⟩:=Option.map_eq_some_iff.mp hb'
  obtain⟨ad,kvs,g1,g2,rfl,hd',hks,rs,ef⟩:=Jae hF r2
  cases (show u=Value.ref ad from ry)
  have ex:=Jcp hk r1
  refine hdic I (.inl ⟨kvs,ky,hd',ex,rfl⟩) rx fun s' I'=>⟨.bl _,H,I',?_,q⟩
  have:(valV kvs ky).isSome=(Uq ks ds ky).isSome:=by
   rw[←hks]
   cases z:Uq (kvs.map (·.1)) ds ky with
   | none=>rw[JbT rs z];rfl
   | some w=>obtain⟨v',_,_,_,h1,_⟩:=Jbv rs z;rw[h1];rfl
  rw[this];rfl
 | str j =>
  cases dx with
  | str i =>
   obtain⟨rfl,_⟩:=r1
   obtain⟨rfl,_⟩:=r2
   simp only[inB]at hb
   cases hb
   exact hstr pins s σ H _ _ v u Q I rx ry ⟨i,j,rfl,rfl,q⟩
  | _=>simp[inB]at hb
 | _=>cases dx<;>simp[inB]at hb
theorem od_in {kk:Nat} (hr:Room kk X.A):OD2 X (compareOp .In) pIn :=
 JdY (neg:=false) hr (fun e h1 h2 q=>in_listAt e h1 h2 (by simpa using q)) (fun e h1 h2 q=>in_tupleAt e h1 h2 (by simpa using q)) (fun I g r h=>d_in (by have:=hr.units;omega) I g r (by simpa using h)) (by simpa using op_in_str)
theorem JcH {kk:Nat} (hr:Room kk X.A):OD2 X (compareOp .NotIn) QN :=
 JdY (neg:=true) hr (fun e h1 h2 q=>notIn_listAt e h1 h2 (by simpa using q)) (fun e h1 h2 q=>notIn_tupleAt e h1 h2 (by simpa using q)) (fun I g r h=>d_notIn (by have:=hr.units;omega) I g r (by simpa using h)) (by simpa using op_notin_str)
end
end VS
namespace VS
open PySem L2 SeqAt
section
variable {X:Cx} {W:WX} {M M1 M2 M3 Rs R1 R2 R3:List Nat} {e a b c:Expr} {es:List Expr} {ca cb cc:CE} {cs:CA} {pos p:Pos}
variable {pins:List (Addr × Obj)} {σ:St} {H:Hp} {s:Shared} {C:Ctx}
def cL (p:List D→Option D) (cs:CA):CE:=fun env=>(cs env).bind fun ds env=>R.of (p ds) env
theorem JeP {p:List D→Option D} (ha:SA X W M Rs es cs):∃t,PA X es t∧∀C fs env σ H tf Q,C.At X→Good C fs env σ H tf→Yw W C M tf fs env σ H Q (cL p cs env)→tCB (rDL X p) t σ H Q:=by
 obtain⟨t,pa,q⟩:=ha.go
 refine⟨t,pa,fun C fs env σ H tf Q hC G po=>?_⟩
 show t σ H fun vs H1=>rDL X p vs H1 Q
 refine q C fs env σ H tf _ hC G ?_
 unfold cL at po
 cases e1:cs env with
 | err=>rw[e1]at po;exact po
 | ex x env'=>rw[e1]at po;exact po
 | ok ds env' =>
  rw[e1]at po
  intro vs fs' H' fp own G' s r i
  have po':Yw W C M tf fs env σ H Q (R.of (p ds) env'):=po
  cases e2:p ds with
  | none=>rw[e2]at po';exact po'.elim
  | some z =>
   rw[e2]at po'
   exact⟨C,ds,fp,z,hC,G'.fr,r,e2,Uc G' s po'⟩
theorem Jp {id:String} {x:Str} {pf:Pos} {pr:List D→Option D} (hc:ODL X (.builtin id) pr) (hg:Gl X x) (hm:X.mg x=none) (hv:bootBuiltins x=some (.builtin id)) (ha:SA X W M Rs (e::es) cs) (hn:x ≠ "__name__" := by decide) (hdb:(x == ("__debug__" : Str))=false:=by decide)
  (he:starEach (e::es) X.env=(false,eval e X.env)::starEach es X.env:=by rfl) (hpl:(backTo pos (starEach es X.env)).any (·.1)=false:=by rfl):SO X W M (.Call (.Name x pf) (e::es) [] pos) (cL pr cs):=by
 obtain⟨t,pa,q⟩:=JeP (p:=pr) ha
 exact⟨_,pe_callB hc hg hm hv pa hn hdb he hpl,q⟩
theorem Ux {T:String} {x:Str} {pf:Pos} {pr:List D→Option D} (hc:ODL X (.type T) pr) (hg:Gl X x) (hm:X.mg x=none) (hv:bootBuiltins x=some (.type T)) (ha:SA X W M Rs (e::es) cs) (hn:x ≠ "__name__" := by decide) (hdb:(x == ("__debug__" : Str))=false:=by decide)
  (he:starEach (e::es) X.env=(false,eval e X.env)::starEach es X.env:=by rfl) (hpl:(backTo pos (starEach es X.env)).any (·.1)=false:=by rfl):SO X W M (.Call (.Name x pf) (e::es) [] pos) (cL pr cs):=by
 obtain⟨t,pa,q⟩:=JeP (p:=pr) ha
 exact⟨_,pe_callTy hc hg hm hv pa hn hdb he hpl,q⟩
theorem ZA {T:String} {x:Str} (hg:Gl X x) (hm:X.mg x=none) (hv:bootBuiltins x=some (.type T)) (hn:x ≠ "__name__" := by decide) (hd:(x == ("__debug__" : Str))=false:=by decide):SO X W [] (.Name x pos) (cK (.ty T)) :=
 so_k (v:=.ty T) (pe_bltn hg hm hv (show RelV (.ty T) (.type T) from rfl) hn hd) (fun _ _ _ h=>h) fun _ _=>⟨rfl,rfl⟩
theorem YZ {d:D} {vs:List V} {fp} (r:Reps C H [d] vs fp):∃v,vs=[v]∧Rep C H d v fp:=by
 obtain⟨v,vs',f1,f2,rfl,r1,⟨rfl,rfl⟩,rfl⟩:=r
 exact⟨v,rfl,by simpa using r1⟩
theorem JcS {d e:D} {vs:List V} {fp} (r:Reps C H [d,e] vs fp):∃v w f1 f2,vs=[v,w]∧Rep C H d v f1∧Rep C H e w f2∧fp=f1++f2:=by
 obtain⟨v,vs',f1,f2,rfl,r1,r2,rfl⟩:=r
 obtain⟨w,rfl,r3⟩:=YZ r2
 exact⟨v,w,f1,f2,rfl,r1,r3,rfl⟩
def pLen:List D→Option D
 | [.lst _ ds]=>some (.int ds.length)
 | [.tup ds]=>some (.int ds.length)
 | [.dct _ ks _]=>some (.int ks.length)
 | [.str s]=>if s.length≤sizeLine then some (.int s.length) else none
 | _=>none
theorem YX:ODL X (.builtin "len") pLen:=by
 intro pins s σ H xs us Q I rv ⟨C,ds,fx,d,hC,hF,rs,e,k⟩
 unfold pLen at e
 split at e
 ·rename_i g zs
  obtain⟨v,rfl,r⟩:=YZ rs
  obtain⟨a,vs,f,rfl,q,rz⟩:=Jt hC hF r
  cases e
  refine call_len_seq pins s σ H _ us Q I rv ⟨a,vs,rfl,.inl q,?_⟩
  rw[←Jh rz]
  exact k.here ⟨rfl,rfl⟩
 ·rename_i zs
  obtain⟨v,rfl,r⟩:=YZ rs
  obtain⟨a,vs,rfl,q,rz⟩:=JB hC r
  cases e
  refine call_len_seq pins s σ H _ us Q I rv ⟨a,vs,rfl,.inr q,?_⟩
  rw[←Jh rz]
  exact k.here ⟨rfl,rfl⟩
 ·rename_i g ks zs
  obtain⟨v,rfl,r⟩:=YZ rs
  obtain⟨ad,kvs,g1,g2,rfl,hd,hk,rz,_⟩:=Jae hF r
  cases e
  obtain⟨u,rfl,ru⟩:=vals1 rv
  cases (show u=Value.ref ad from ru)
  refine d_len I hd fun t s' I'=>⟨.int kvs.length,H,I',⟨t,rfl⟩,?_⟩
  have:kvs.length=ks.length:=by rw[←hk];simp
  rw[this];exact k.here ⟨rfl,rfl⟩
 ·rename_i z
  obtain⟨v,rfl,r⟩:=YZ rs
  obtain⟨rfl,_⟩:=r
  split at e
  ·rename_i hz
   cases e
   exact call_len pins s σ H _ us Q I rv ⟨.str z,z.length,rfl,⟨hz,rfl⟩,k.here ⟨rfl,rfl⟩⟩
  ·cases e
 ·cases e
def pAbs:List D→Option D
 | [.int i]=>some (.int (if i < 0 then -i else i))
 | _=>none
theorem JeE:ODL X (.builtin "abs") pAbs:=by
 refine ODL.of call_abs fun xs H Q ⟨C,ds,fx,d,hC,hF,rs,e,k⟩=>?_
 unfold pAbs at e
 split at e
 ·rename_i i
  obtain⟨v,rfl,r⟩:=YZ rs
  obtain⟨rfl,_⟩:=r
  cases e
  exact⟨i,rfl,k.here ⟨rfl,rfl⟩⟩
 ·cases e
def Jdw:List D→Option D
 | [.int i,.int j]=>some (.int (if j < i then j else i))
 | _=>none
theorem od_min2 (hc:X.calm=true):ODL X (.builtin "min") Jdw:=by
 refine ODL.of (call_min2 hc) fun xs H Q ⟨C,ds,fx,d,hC,hF,rs,e,k⟩=>?_
 unfold Jdw at e
 split at e
 ·rename_i i j
  obtain⟨v,w,f1,f2,rfl,r,r',_⟩:=JcS rs
  obtain⟨rfl,_⟩:=r
  obtain⟨rfl,_⟩:=r'
  cases e
  exact⟨i,j,rfl,k.here ⟨rfl,rfl⟩⟩
 ·cases e
def Jct:List D→Option D
 | [.int i]=>some (.int i)
 | [.bl b]=>some (.int (if b then 1 else 0))
 | _=>none
theorem od_int1:ODL X (.type "int") Jct:=by
 refine ODL.of call_int1 fun xs H Q ⟨C,ds,fx,d,hC,hF,rs,e,k⟩=>?_
 unfold Jct at e
 split at e
 ·rename_i i
  obtain⟨v,rfl,r⟩:=YZ rs
  obtain⟨rfl,_⟩:=r
  cases e
  exact .inl ⟨i,rfl,k.here ⟨rfl,rfl⟩⟩
 ·rename_i i
  obtain⟨v,rfl,r⟩:=YZ rs
  obtain⟨rfl,_⟩:=r
  cases e
  exact .inr ⟨i,rfl,k.here ⟨rfl,rfl⟩⟩
 ·cases e
def D.tyn:D→Option String
 | .non=>some "NoneType"
 | .bl _=>some "bool"
 | .int _=>some "int"
 | .str _=>some "str"
 | .tup _=>some "tuple"
 | .lst _ _=>some "list"
 | .dct _ _ _=>some "dict"
 | _=>none
def isiB (a b:String):Bool:=a == b || (a == "bool" && b == "int")
def Jce:List String:=["NoneType", "bool", "int", "str", "tuple", "list", "dict"]
def Ja4:List String:=["bool", "int", "str", "tuple", "list", "dict"]
theorem kit_tab:(Jce.all fun a=>Ja4.all fun b=>kitB a b == some (isiB a b))=true:=by decide +kernel
theorem Jdy {K:PySem.W.Frag} {a b:String} (ha:a∈Jce) (hb:b∈Ja4):PySem.W.kitOne K (.type a) (.type b)=some (isiB a b) :=
 kit_ty (eq_of_beq (List.all_eq_true.mp (List.all_eq_true.mp kit_tab a ha) b hb))
theorem Jdn {d:D} {t:String} (h:d.tyn=some t):t∈Jce:=by
 cases d<;>simp[D.tyn]at h<;>subst h<;>decide
def tyNm:D→Option String
 | .ty n=>if Ja4.contains n then some n else none
 | _=>none
def JdO:List D→Option (List String)
 | []=>some []
 | d::ds=>(tyNm d).bind fun n=>(JdO ds).map fun ns=>n::ns
def pIsi:List D→Option D
 | [d,.ty n]=>d.tyn.bind fun t=>(tyNm (.ty n)).map fun n=>.bl (isiB t n)
 | [d,.tup cs]=>d.tyn.bind fun t=>(JdO cs).map fun ns=>.bl (ns.any fun n=>isiB t n)
 | _=>none
theorem Jd3 {d:D} {t:String} {v:V} {fp} (hC:C.At X) (hF:Fr C H) (h:d.tyn=some t) (r:Rep C H d v fp):TyX X.K H v (.type t):=by
 cases d with
 | non=>cases h;obtain⟨rfl,_⟩:=r;exact .base .non
 | bl b=>cases h;obtain⟨rfl,_⟩:=r;exact .base (.bl b)
 | int b=>cases h;obtain⟨rfl,_⟩:=r;exact .base (.int b)
 | str b=>cases h;obtain⟨rfl,_⟩:=r;exact .base (.str b)
 | tup ds =>
  cases h
  obtain⟨a,vs,rfl,q,_⟩:=JB hC r
  rcases q with (q | ⟨o,q⟩) | ⟨o,its,n,hk,hc,_⟩
  ·exact .base (.tup q)
  ·exact .fTuple q
  ·exact .kTuple hk hc
 | lst g ds =>
  cases h
  obtain⟨a,vs,f,rfl,q,_⟩:=Jt hC hF r
  rcases q with (q | ⟨o,q⟩) | ⟨o,its,n,hk,hc,_⟩
  ·exact .base (.lst q)
  ·exact .base (.frz q)
  ·exact .kList hk hc
 | dct g ks ds =>
  cases h
  obtain⟨ad,kvs,g1,g2,rfl,hd,hk,rz,_⟩:=Jae hF r
  rcases hd with q | ⟨o,q⟩
  ·exact .base (.dK q)
  ·exact .fDict q
 | ty _=>cases h
 | ftu _=>cases h
 | obj _ _ _ _=>cases h
 | exc _ _ _=>cases h
theorem JcF {d:D} {n:String} (h:tyNm d=some n):d=.ty n∧n∈Ja4:=by
 cases d<;>simp[tyNm]at h
 obtain⟨h1,rfl⟩:=h
 exact⟨rfl,by simpa using h1⟩
theorem JbV {C:Ctx} {H:Hp}:∀{cs:List D} {ns:List String} {vs:List V} {fp},JdO cs=some ns→Reps C H cs vs fp→∃us:List Value,us=ns.map Value.type∧Paired ClsV vs us∧∀n∈ns,n∈Ja4
 | [],ns,vs,fp,h,⟨e,_⟩=>by subst e;cases h;exact⟨[],rfl,.nil,fun _ z=>nomatch z⟩
 | d::ds,ns,vs,fp,h,⟨v,vs',f1,f2,e,r,rs,_⟩=>by
  simp only[JdO]at h
  obtain⟨n,hn,h⟩:=Option.bind_eq_some_iff.mp h
  obtain⟨ns',hns,rfl⟩:=Option.map_eq_some_iff.mp h
  obtain⟨rfl,hm⟩:=JcF hn
  obtain⟨rfl,_⟩:=r
  subst e
  obtain⟨us,rfl,hp,hall⟩:=JbV hns rs
  refine⟨_,rfl,.cons (.ty n) hp,fun m hm'=>?_⟩
  rcases List.mem_cons.mp hm' with rfl | z
  ·exact hm
  ·exact hall m z
theorem Jbt {K:PySem.W.Frag} {a:String} (ha:a∈Jce):∀{ns:List String},(∀n∈ns,n∈Ja4)→PySem.W.kitAny K (.type a) (ns.map Value.type)=some (ns.any fun n=>isiB a n)
 | [],_=>rfl
 | n::ns,h=>by
  show PySem.W.kitAny K (.type a) (Value.type n::ns.map Value.type)=_
  unfold PySem.W.kitAny
  rw[Jdy ha (h n (by simp))]
  cases q:isiB a n with
  | true=>simp[q]
  | false=>simp[q];exact Jbt ha fun m hm=>h m (by simp[hm])
theorem call_isiT':CallR X (.builtin "isinstance") (fun xs H Q=>∃(x:V) (tp:Addr) (cs:List V) (t:Value) (us:List Value) (b:Bool),xs=[x,.ref tp]∧SqT X.K H tp cs∧Paired ClsV cs us∧TyX X.K H x t∧PySem.W.kitAny X.K t us=some b∧Q (.bl b) H):=by
 intro pins s σ H xs us Q I r h
 obtain⟨x,tp,cs,t,ws,b,rfl,hT,k,ty,e,q⟩:=h
 obtain⟨u1,u2,rfl,r1,r2⟩:=vals2 r
 cases (show u2=Value.ref tp from r2)
 obtain⟨P,Z,p,hx⟩:=kit_of I r1 ty
 obtain⟨its,rv,⟨o,h1,h2,n,h3⟩,_⟩:=I.tuple hT
 have e3:=ClsV.all k rv
 subst e3
 obtain⟨oc,od,dt,sl⟩:=o
 simp only at h2 h3
 subst h2 h3
 exact PySem.W.kia_tup Z I.kIn p h1 e hx fun tk=>⟨.bl b,H,I.tok tk,rfl,q⟩
theorem Zf:ODL X (.builtin "isinstance") pIsi:=by
 intro pins s σ H xs us Q I rv ⟨C,ds,fx,d,hC,hF,rs,e,k⟩
 unfold pIsi at e
 split at e
 ·rename_i d0 n
  obtain⟨v,w,f1,f2,rfl,r,r',_⟩:=JcS rs
  obtain⟨rfl,_⟩:=r'
  obtain⟨t,ht,e⟩:=Option.bind_eq_some_iff.mp e
  obtain⟨m,hm,rfl⟩:=Option.map_eq_some_iff.mp e
  obtain⟨h1,h2⟩:=JcF hm
  cases h1
  exact call_isi pins s σ H _ us Q I rv ⟨v,.ty n,.type t,.type n,isiB t n,rfl,.ty n,Jd3 hC hF ht r,Jdy (Jdn ht) h2,k.here ⟨rfl,rfl⟩⟩
 ·rename_i d0 cs
  obtain⟨v,w,f1,f2,rfl,r,r',_⟩:=JcS rs
  obtain⟨a,vs,rfl,q,rz⟩:=JB hC r'
  obtain⟨t,ht,e⟩:=Option.bind_eq_some_iff.mp e
  obtain⟨ns,hns,rfl⟩:=Option.map_eq_some_iff.mp e
  obtain⟨us',e1,hp,hall⟩:=JbV hns rz
  subst e1
  exact call_isiT' pins s σ H _ us Q I rv ⟨v,a,vs,.type t,_,ns.any fun n=>isiB t n,rfl,q,hp,Jd3 hC hF ht r,Jbt (Jdn ht) hall,k.here ⟨rfl,rfl⟩⟩
 ·cases e
def Jc6 (W:WX) (C:Ctx) (M:List Nat) (tf:List Addr) (fs:FPs) (env:Env) (σ:St) (H:Hp) (Q:List V→Hp→Prop):R (List D)→Prop
 | .ok ds env'=>∀vs fs' H' fp,Good C fs' env' σ H' (fp++tf)→Step M tf fs env H fs' env' H'→Reps C H' ds vs fp→Q vs H'
 | .ex x env'=>∀cv dd fs' H',Good C fs' env' σ H' tf→Step M tf fs env H fs' env' H'→ExIs C x cv dd H'→W cv dd σ H'
 | .err=>False
structure SAO (X:Cx) (W:WX) (M:List Nat) (es:List Expr) (c:CA):Prop where
 go:∃t,PA X es t∧∀C fs env σ H tf Q,C.At X→Good C fs env σ H tf→Jc6 W C M tf fs env σ H Q (c env)→t σ H Q
theorem Jj:SAO X W [] [] cNil:=by
 refine⟨tNil,pa_nil,fun C fs env σ H tf Q hC G po=>?_⟩
 exact po [] fs H [] (by simpa using G) .refl ⟨rfl,rfl⟩
theorem Good.swap {fs:FPs} {env:Env} {tf f1 f2:List Addr} (G:Good C fs env σ H (f2++(f1++tf))):Good C fs env σ H ((f1++f2)++tf):=by
 have p:(fs.flatten++((f1++f2)++tf)).Perm (fs.flatten++(f2++(f1++tf))):=by
  refine List.Perm.append_left _ ?_
  rw[←List.append_assoc]
  exact List.perm_append_comm.append_right _
 exact⟨G.le,G.lf,G.rep,p.nodup_iff.mpr G.nd,fun a ha=>G.own a (p.mem_iff.mp ha),fun a ha=>G.trk a (p.mem_iff.mp ha),G.fr,G.lk⟩
theorem Jc (ha:SO X W M1 a ca) (hr:SAO X W M2 es cs) (hs:starEach (a::es) X.env=(false,eval a X.env)::starEach es X.env:=by rfl):SAO X W (M1++M2) (a::es) (Jb ca cs):=by
 obtain⟨t,p,q⟩:=ha.go
 obtain⟨t2,p2,q2⟩:=hr.go
 refine⟨tCons t t2,pa_cons p p2 hs,fun C fs env σ H tf Q hC G po=>?_⟩
 refine q C fs env σ H tf _ hC G ?_
 unfold Jb at po
 cases e1:ca env with
 | err=>rw[e1]at po;exact po
 | ex x env' =>
  rw[e1]at po
  exact fun cv dd fs' H' G' s=>po cv dd fs' H' G' (s.weak (fun i hi=>List.mem_append_left _ hi) fun _ z=>z)
 | ok d env1 =>
  rw[e1]at po
  intro v fs1 H1 fp1 G1 s1 r1
  refine q2 C fs1 env1 σ H1 (fp1++tf) _ hC G1 ?_
  have po':Jc6 W C (M1++M2) tf fs env σ H Q ((cs env1).bind fun ds env=>.ok (d::ds) env):=po
  cases e2:cs env1 with
  | err=>rw[e2]at po';exact po'
  | ex x env' =>
   rw[e2]at po'
   exact fun cv dd fs' H' G' s=>po' cv dd fs' H' G'.drop (s1.trans (s.weak (fun _ z=>z) fun x hx=>List.mem_append_right _ hx))
  | ok ds env2 =>
   rw[e2]at po'
   intro vs fs2 H2 fp2 G2 s2 r2
   have po2:∀vs fs' H' fp,Good C fs' env2 σ H' (fp++tf)→Step (M1++M2) tf fs env H fs' env2 H'→Reps C H' (d::ds) vs fp→Q vs H':=po'
   exact po2 (v::vs) fs2 H2 (fp1++fp2) G2.swap (s1.trans (s2.weak (fun _ z=>z) fun x hx=>List.mem_append_right _ hx)) ⟨v,vs,fp1,fp2,rfl,r1.keep (fun x hx=>s2.t x (List.mem_append_left _ hx)) s2.m,r2,rfl⟩
def cTup (cs:CA):CE:=fun env=>(cs env).bind fun ds env=>if ds.length≤sizeLine then .ok (.tup ds) env else .err
def cLst (cs:CA):CE:=fun env=>(cs env).bind fun ds env=>if ds.length≤sizeLine then .ok (.lst .m ds) env else .err
theorem Good.new {fs:FPs} {env:Env} {tf:List Addr} {q:Addr} {o:HO} (G:Good C fs env σ H tf) (hq:H q=none) (mu:Mutb o):Good C fs env σ (upd H q o) (q::tf) :=
 G.grow (fp:=[q]) (Le.new hq) (by simp) (fun a ha=>by simp at ha;subst ha;exact hq) fun a ha=>by simp at ha;subst ha;exact⟨o,upd_same,mu⟩
theorem YA {kk} (h:SAO X W M es cs):SO X W M (.Tuple es kk pos) (cTup cs):=by
 obtain⟨t,p,q⟩:=h.go
 refine⟨tTup t,pe_tup p,fun C fs env σ H tf Q hC G po=>q C fs env σ H tf _ hC G ?_⟩
 unfold cTup at po
 cases e1:cs env with
 | err=>rw[e1]at po;exact po
 | ex x env'=>rw[e1]at po;exact po
 | ok ds env' =>
  rw[e1]at po
  intro vs fs' H' fp G' s r
  have po':Yw W C M tf fs env σ H Q (if ds.length≤sizeLine then .ok (.tup ds) env' else .err):=po
  by_cases hz:ds.length≤sizeLine
  ·rw[if_pos hz]at po'
   refine⟨by rw[←Jh r];exact hz,fun q hq=>?_⟩
   have le:=Le.new (o:=.tup vs) hq
   refine po' (.ref q) fs' _ fp (G'.le' le) ?_ ⟨q,vs,rfl,SqT.of upd_same,r.le le⟩
   have:=s.trans (Step.grow (M:=[]) G'.drop le)
   simpa using this
  ·rw[if_neg hz]at po';exact po'.elim
theorem JY (h:SAO X W M es cs):SO X W M (.List es pos) (cLst cs):=by
 obtain⟨t,p,q⟩:=h.go
 refine⟨tLst t,pe_lst p,fun C fs env σ H tf Q hC G po=>q C fs env σ H tf _ hC G ?_⟩
 unfold cLst at po
 cases e1:cs env with
 | err=>rw[e1]at po;exact po
 | ex x env'=>rw[e1]at po;exact po
 | ok ds env' =>
  rw[e1]at po
  intro vs fs' H' fp G' s r
  have po':Yw W C M tf fs env σ H Q (if ds.length≤sizeLine then .ok (.lst .m ds) env' else .err):=po
  by_cases hz:ds.length≤sizeLine
  ·rw[if_pos hz]at po'
   refine⟨by rw[←Jh r];exact hz,fun q hq=>?_⟩
   have le:=Le.new (o:=.lst vs) hq
   refine po' (.ref q) fs' _ (q::fp) (G'.new hq trivial) ?_ ⟨q,vs,[q],fp,rfl,⟨upd_same,rfl⟩,r.le le,.inl rfl,rfl⟩
   have:=s.trans (Step.grow (M:=[]) G'.drop le)
   simpa using this
  ·rw[if_neg hz]at po';exact po'.elim
end
end VS
namespace VS
open PySem L2 SeqAt
inductive O where
 | nx (e:Env)
 | rt (d:D) (e:Env)
 | bk (e:Env)
 | ct (e:Env)
 | ex (x:Exn) (e:Env)
 | err
abbrev CS:=Env→O
structure StepS (M Vs:List Nat) (tf:List Addr) (fs:FPs) (env:Env) (σ:St) (H:Hp) (fs':FPs) (env':Env) (σ':St) (H':Hp):Prop where
 s:Step M tf fs env H fs' env' H'
 v:∀i,i∉Vs→σ'[i]?=σ[i]?
theorem StepS.refl {M Vs tf fs env σ H}:StepS M Vs tf fs env σ H fs env σ H:=⟨.refl,fun _ _=>rfl⟩
theorem StepS.trans {M1 M2 V1 V2 tf fs env σ H fs1 env1 σ1 H1 fs2 env2 σ2 H2} (a:StepS M1 V1 tf fs env σ H fs1 env1 σ1 H1) (b:StepS M2 V2 tf fs1 env1 σ1 H1 fs2 env2 σ2 H2):StepS (M1++M2) (V1++V2) tf fs env σ H fs2 env2 σ2 H2 :=
 ⟨a.s.trans b.s,fun i hi=>by
  rw[List.mem_append,not_or]at hi
  exact(b.v i hi.2).trans (a.v i hi.1)⟩
theorem StepS.weak {M M' Vs Vs' tf tf' fs env σ H fs1 env1 σ1 H1} (a:StepS M Vs tf fs env σ H fs1 env1 σ1 H1) (h:∀i∈M,i∈M') (hv:∀i∈Vs,i∈Vs') (ht:∀x∈tf',x∈tf):StepS M' Vs' tf' fs env σ H fs1 env1 σ1 H1 :=
 ⟨a.s.weak h ht,fun i hi=>a.v i fun z=>hi (hv i z)⟩
theorem Step.ss {M tf fs env H fs' env' H'} {σ:St} (a:Step M tf fs env H fs' env' H'):StepS M [] tf fs env σ H fs' env' σ H':=⟨a,fun _ _=>rfl⟩
section
variable (W:WX) (C:Ctx)
def UU (M Vs:List Nat) (tf:List Addr) (fs:FPs) (env:Env) (σ:St) (H:Hp) (E:Ends):O→Prop
 | .nx env'=>∀fs' σ' H',Good C fs' env' σ' H' tf→StepS M Vs tf fs env σ H fs' env' σ' H'→E.nx σ' H'
 | .rt d env'=>∀v fs' σ' H' fp,Good C fs' env' σ' H' (fp++tf)→StepS M Vs tf fs env σ H fs' env' σ' H'→Rep C H' d v fp→E.rt v H'
 | .bk env'=>∀fs' σ' H',Good C fs' env' σ' H' tf→StepS M Vs tf fs env σ H fs' env' σ' H'→E.bk σ' H'
 | .ct env'=>∀fs' σ' H',Good C fs' env' σ' H' tf→StepS M Vs tf fs env σ H fs' env' σ' H'→E.ct σ' H'
 | .ex x env'=>∀cv dd fs' σ' H',Good C fs' env' σ' H' tf→StepS M Vs tf fs env σ H fs' env' σ' H'→ExIs C x cv dd H'→W cv dd σ' H'
 | .err=>False
def QX (M Vs:List Nat) (tf:List Addr) (fs:FPs) (env:Env) (σ:St) (H:Hp) (Q:St→Hp→Prop):Option Env→Prop
 | some env'=>∀fs' σ' H',Good C fs' env' σ' H' tf→StepS M Vs tf fs env σ H fs' env' σ' H'→Q σ' H'
 | none=>False
end
structure SS (X:Cx) (W:WX) (M Vs:List Nat) (st:Stmt) (c:CS):Prop where
 go:∃t,PS X st t∧∀C fs env σ H tf E,C.At X→Good C fs env σ H tf→UU W C M Vs tf fs env σ H E (c env)→t E σ H
structure SSs (X:Cx) (W:WX) (M Vs:List Nat) (sts:List Stmt) (c:CS):Prop where
 go:∃t,PSs X sts t∧∀C fs env σ H tf E,C.At X→Good C fs env σ H tf→UU W C M Vs tf fs env σ H E (c env)→t E σ H
structure SG (X:Cx) (M Vs:List Nat) (tg:Expr) (g:D→Env→Option Env):Prop where
 go:∃t,PG X tg t∧∀C fs env σ H tf Q d v fp,C.At X→Good C fs env σ H (fp++tf)→Rep C H d v fp→QX C M Vs tf fs env σ H Q (g d env)→t v σ H Q
structure SGs (X:Cx) (M Vs:List Nat) (tgs:List Expr) (g:List D→Env→Option Env):Prop where
 go:∃t,PGs X tgs t∧∀C fs env σ H tf Q ds vs fp,C.At X→Good C fs env σ H (fp++tf)→Reps C H ds vs fp→QX C M Vs tf fs env σ H Q (g ds env)→t vs σ H Q
section
variable {C:Ctx} {H H':Hp} {fs fs':FPs} {env env':Env} {σ σ':St} {tf fp own:List Addr} {M Rs:List Nat}
theorem Good.put {i:Nat} {d:D} {v:V} (G:Good C fs env σ H (fp++tf)) (r:Rep C H d v fp):Good C (fs.set i fp) (env.set i (some d)) (σ.set i (some v)) H tf:=by
 by_cases hi:i < σ.length
 case neg =>
  have h1:=G.le
  have h2:=G.lf
  rw[List.set_eq_of_length_le (by omega),List.set_eq_of_length_le (by omega),List.set_eq_of_length_le (by omega)]
  exact G.drop
 have hl:i < fs.length:=by rw[G.lf];exact hi
 have p1:=JbD fs hl fp
 have p2:=UQ fs hl
 have sub:∀a∈(fs.set i fp).flatten++tf,a∈fs.flatten++(fp++tf):=fun a ha=>by
  rcases List.mem_append.mp ha with z | z
  ·rcases List.mem_append.mp (p1.mem_iff.mp z) with z | z
   ·simp[z]
   ·have:=p2.mem_iff.mpr (List.mem_append_right _ z)
    simp[this]
  ·simp[z]
 refine⟨by simpa using G.le,by simpa using G.lf,fun j d' e=>?_,?_,fun a ha=>G.own a (sub a ha),fun a ha=>G.trk a (sub a ha),G.fr,G.lk⟩
 ·rw[List.getElem?_set]at e
  by_cases hj:i=j
  ·subst hj
   have hle:i < env.length:=by rw[G.le];exact hi
   simp[hle]at e;subst e
   refine⟨v,by simp[hi],?_⟩
   rw[Yt fs i i fp hl,if_pos rfl];exact r
  ·rw[if_neg hj]at e
   obtain⟨w,e1,r1⟩:=G.rep j d' e
   refine⟨w,by rw[List.getElem?_set_ne hj];exact e1,?_⟩
   rw[Yt fs i j fp hl,if_neg (Ne.symm hj)];exact r1
 ·have nd:=G.nd
  have q:(fs.flatten++(fp++tf)).Perm (fs.getD i []++((fp++(fs.set i []).flatten)++tf)):=by
   refine (p2.append_right _).trans ?_
   rw[List.append_assoc]
   refine List.Perm.append_left _ ?_
   rw[←List.append_assoc]
   exact List.perm_append_comm.append_right _
  have nd2:=(List.nodup_append.mp (q.nodup_iff.mp nd)).2.1
  exact(p1.append_right tf).nodup_iff.mpr nd2
theorem Step.put {i:Nat} {d:D} (G:Good C fs env σ H (fp++tf)):Step [i] tf fs env H (fs.set i fp) (env.set i (some d)) H:=by
 refine⟨fun _ _=>rfl,fun j hj=>?_,fun j hj=>?_,fun _ _ _ _=>rfl,.refl H⟩
 ·rw[List.getD_eq_getElem?_getD,List.getElem?_set_ne (by intro z;subst z;simp at hj),List.getD_eq_getElem?_getD]
 ·rw[List.getElem?_set,if_neg (by intro z;subst z;simp at hj)]
theorem StepS.put {i:Nat} {d:D} {v:V} (G:Good C fs env σ H (fp++tf)):StepS [i] [i] tf fs env σ H (fs.set i fp) (env.set i (some d)) (σ.set i (some v)) H :=
 ⟨Step.put G,fun j hj=>by rw[List.getElem?_set,if_neg (by intro z;subst z;simp at hj)]⟩
end
section
variable {X:Cx} {W:WX} {M M1 M2 M3 V1 V2 V3 Rs R1 R2 R3:List Nat} {e a b c:Expr} {es:List Expr} {ca cb cc:CE} {cs:CA} {ct:CT} {pos p:Pos} {st:Stmt} {sts:List Stmt} {c1 c2' c3:CS}
variable {pins:List (Addr × Obj)} {σ:St} {H:Hp} {s:Shared} {C:Ctx}
def sNil:CS:=fun env=>.nx env
def O.bind (o:O) (f:CS):O:=match o with
 | .nx e=>f e
 | o=>o
def sSeq (c1 c2:CS):CS:=fun env=>(c1 env).bind c2
theorem Ys:SSs X W [] [] [] sNil:=⟨tNext,pss_nil,fun C fs env σ H tf E hC G po=>po fs σ H G .refl⟩
theorem UU.weak {tf fs env σ H E} {z:O} (h:∀i∈M1,i∈M2) (hv:∀i∈V1,i∈V2) (po:UU W C M2 V2 tf fs env σ H E z):UU W C M1 V1 tf fs env σ H E z:=by
 cases z with
 | nx env'=>exact fun fs' σ' H' G s=>po fs' σ' H' G (s.weak h hv fun _ z=>z)
 | rt d env'=>exact fun v fs' σ' H' fp G s r=>po v fs' σ' H' fp G (s.weak h hv fun _ z=>z) r
 | bk env'=>exact fun fs' σ' H' G s=>po fs' σ' H' G (s.weak h hv fun _ z=>z)
 | ct env'=>exact fun fs' σ' H' G s=>po fs' σ' H' G (s.weak h hv fun _ z=>z)
 | ex x env'=>exact fun cv dd fs' σ' H' G s=>po cv dd fs' σ' H' G (s.weak h hv fun _ z=>z)
 | err=>exact po
theorem UU.step {tf fs env σ H E fs1 env1 σ1 H1} {z:O} (s1:StepS M1 V1 tf fs env σ H fs1 env1 σ1 H1) (po:UU W C (M1++M2) (V1++V2) tf fs env σ H E z):UU W C M2 V2 tf fs1 env1 σ1 H1 E z:=by
 cases z with
 | nx env'=>exact fun fs' σ' H' G s=>po fs' σ' H' G (s1.trans s)
 | rt d env'=>exact fun v fs' σ' H' fp G s r=>po v fs' σ' H' fp G (s1.trans s) r
 | bk env'=>exact fun fs' σ' H' G s=>po fs' σ' H' G (s1.trans s)
 | ct env'=>exact fun fs' σ' H' G s=>po fs' σ' H' G (s1.trans s)
 | ex x env'=>exact fun cv dd fs' σ' H' G s=>po cv dd fs' σ' H' G (s1.trans s)
 | err=>exact po
theorem YM {M1 M2:List Nat}:∀i∈M1,i∈M1++M2:=fun _ h=>List.mem_append_left _ h
theorem Jbh {M1 M2:List Nat}:∀i∈M2,i∈M1++M2:=fun _ h=>List.mem_append_right _ h
theorem post_seq {tf fs env σ H E} {f:CS} {z:O} (po:UU W C (M1++M2) (V1++V2) tf fs env σ H E (z.bind f)) {K:Ends} (hr:K.rt=E.rt) (hb:K.bk=E.bk) (hc:K.ct=E.ct)
  (hn:∀env1,z=.nx env1→∀fs1 σ1 H1,Good C fs1 env1 σ1 H1 tf→StepS M1 V1 tf fs env σ H fs1 env1 σ1 H1→UU W C M2 V2 tf fs1 env1 σ1 H1 E (f env1)→K.nx σ1 H1):UU W C M1 V1 tf fs env σ H K z:=by
 cases z with
 | nx env1=>exact fun fs1 σ1 H1 G1 s1=>hn env1 rfl fs1 σ1 H1 G1 s1 (UU.step s1 po)
 | rt d env'=>show ∀v fs' σ' H' fp,_→_→_→K.rt v H';rw[hr];exact UU.weak YM YM (z:=.rt d env') po
 | bk env'=>show ∀fs' σ' H',_→_→K.bk σ' H';rw[hb];exact UU.weak YM YM (z:=.bk env') po
 | ct env'=>show ∀fs' σ' H',_→_→K.ct σ' H';rw[hc];exact UU.weak YM YM (z:=.ct env') po
 | ex x env'=>exact UU.weak YM YM (z:=.ex x env') po
 | err=>exact po
theorem Jf (h1:SS X W M1 V1 st c1) (h2:SSs X W M2 V2 sts c2'):SSs X W (M1++M2) (V1++V2) (st::sts) (sSeq c1 c2'):=by
 obtain⟨t,p,q⟩:=h1.go
 obtain⟨t2,p2,q2⟩:=h2.go
 refine⟨tSeq t t2,pss_cons p p2,fun C fs env σ H tf E hC G po=>?_⟩
 refine q C fs env σ H tf _ hC G ?_
 exact post_seq (f:=c2') po rfl rfl rfl fun env1 _ fs1 σ1 H1 G1 s1 po1=>q2 C fs1 env1 σ1 H1 tf E hC G1 po1
theorem Jr (h1:SS X W M1 V1 st c1):SSs X W M1 V1 [st] c1:=by
 obtain⟨t,p,q⟩:=h1.go
 exact⟨t,pss_one p,q⟩
theorem Good.kill {fs env tf} (G:Good C fs env σ H tf) (i:Nat):Good C (fs.set i []) (env.set i none) σ H tf:=by
 refine⟨by simpa using G.le,by simpa using G.lf,fun j d' e=>?_,?_,fun a ha=>G.own a ?_,fun a ha=>G.trk a ?_,G.fr,G.lk⟩
 ·rw[List.getElem?_set]at e
  by_cases hj:i=j
  ·subst hj;simp at e
  ·rw[if_neg hj]at e
   obtain⟨v,e1,r⟩:=G.rep j d' e
   refine⟨v,e1,?_⟩
   have:(fs.set i []).getD j []=fs.getD j []:=by
    rw[List.getD_eq_getElem?_getD,List.getElem?_set_ne hj,List.getD_eq_getElem?_getD]
   rw[this];exact r
 ·by_cases hi:i < fs.length
  ·have q:=(UQ fs hi).append_right tf
   have:=q.nodup_iff.mp G.nd
   rw[List.append_assoc]at this
   exact(List.nodup_append.mp this).2.1
  ·rw[List.set_eq_of_length_le (by omega)];exact G.nd
 all_goals
  rcases List.mem_append.mp ha with z | z
  ·by_cases hi:i < fs.length
   ·exact List.mem_append_left _ ((UQ fs hi).mem_iff.mpr (List.mem_append_right _ z))
   ·rw[List.set_eq_of_length_le (by omega)]at z;exact List.mem_append_left _ z
  ·exact List.mem_append_right _ z
theorem Step.kill {fs:FPs} {env:Env} {tf} (i:Nat):Step [i] tf fs env H (fs.set i []) (env.set i none) H:=by
 refine⟨fun _ _=>rfl,fun j hj=>?_,fun j hj=>?_,fun _ _ _ _=>rfl,.refl H⟩
 ·have hj':i≠j:=fun z=>by subst z;simp at hj
  rw[List.getD_eq_getElem?_getD,List.getElem?_set_ne hj',List.getD_eq_getElem?_getD]
 ·rw[List.getElem?_set,if_neg (by intro z;subst z;simp at hj)]
def JbP (c:CE):CS:=fun env=>match c env with
 | .ok _ env=>.nx env
 | .ex x env=>.ex x env
 | .err=>.err
theorem Jcd (h:SB X W M Rs e ca) (hs:swapsWith e none pos.line X.env=pure false:=by rfl):SS X W M [] (.Expr e pos) (JbP ca):=by
 obtain⟨t,p,q⟩:=h.go
 refine⟨tDrop t,ps_expr p hs,fun C fs env σ H tf E hC G po=>q C fs env σ H tf _ hC G ?_⟩
 unfold JbP at po
 cases e1:ca env with
 | err=>rw[e1]at po;exact po
 | ex x env'=>rw[e1]at po;exact fun cv dd fs' H' G' s=>po cv dd fs' σ H' G' s.ss
 | ok d env'=>rw[e1]at po;exact fun v fs' H' fp own G' s r i=>po fs' σ H' G'.drop s.ss
def sRet (c:CE):CS:=fun env=>match c env with
 | .ok d env=>.rt d env
 | .ex x env=>.ex x env
 | .err=>.err
theorem JH (h:SO X W M e ca):SS X W M [] (.Return (some e) pos) (sRet ca):=by
 obtain⟨t,p,q⟩:=h.go
 refine⟨tRet t,ps_ret p,fun C fs env σ H tf E hC G po=>q C fs env σ H tf _ hC G ?_⟩
 unfold sRet at po
 cases e1:ca env with
 | err=>rw[e1]at po;exact po
 | ex x env'=>rw[e1]at po;exact fun cv dd fs' H' G' s=>po cv dd fs' σ H' G' s.ss
 | ok d env'=>rw[e1]at po;exact fun v fs' H' fp G' s r=>po v fs' σ H' fp G' s.ss r
def sIf (ct:CT) (c1 c2:CS):CS:=fun env=>match ct env with
 | .ok k env=>if k=true then c1 env else c2 env
 | .ex x env=>.ex x env
 | .err=>.err
theorem Up {sa sb:List Stmt} (hc:ST X W M1 c ct) (ha:SSs X W M2 V2 sa c1) (hb:SSs X W M3 V3 sb c2'):SS X W (M1++(M2++M3)) (V2++V3) (.If c sa sb pos) (sIf ct c1 c2'):=by
 obtain⟨t,p,q⟩:=hc.go
 obtain⟨t2,p2,q2⟩:=ha.go
 obtain⟨t3,p3,q3⟩:=hb.go
 refine⟨tIfS t t2 t3,ps_if p p2 p3,fun C fs env σ H tf E hC G po=>q C fs env σ H tf _ hC G ?_⟩
 unfold sIf at po
 cases e1:ct env with
 | err=>rw[e1]at po;exact po
 | ex x env'=>rw[e1]at po;exact fun cv dd fs' H' G' s=>po cv dd fs' σ H' G' (s.ss.weak YM (fun _ z=>nomatch z) fun _ z=>z)
 | ok k env1 =>
  rw[e1]at po
  intro fs1 H1 G1 s1
  have po1:UU W C (M1++(M2++M3)) ([]++(V2++V3)) tf fs env σ H E (if k=true then c1 env1 else c2' env1):=po
  have po2:=UU.step s1.ss po1
  cases k with
  | true=>exact q2 C fs1 env1 σ H1 tf E hC G1 (UU.weak YM YM po2)
  | false=>exact q3 C fs1 env1 σ H1 tf E hC G1 (UU.weak Jbh Jbh po2)
def gSet (i:Nat):D→Env→Option Env:=fun d env=>some (env.set i (some d))
theorem Jv (i:Nat) {x:Str} (hN:X.N.Nodup) (hi:X.N[i]?=some x:=by rfl) (hx:Loc X.env.scope x:=by first | exact .inl rfl | exact .inr rfl) (hf:X.fn x=true∨X.env.scope.names.lookup x=some .local:=by first | exact .inl rfl | exact .inr rfl | assumption):SG X [i] [i] (.Name x pos) (gSet i) :=
 ⟨gName i,pg_name hN hi hx hf,fun C fs env σ H tf Q d v fp hC G r po=>po _ _ _ (G.put r) (StepS.put G)⟩
def UO:List D→Env→Option Env
 | [],env=>some env
 | _,_=>none
def JA (g:D→Env→Option Env) (gs:List D→Env→Option Env):List D→Env→Option Env
 | d::ds,env=>(g d env).bind fun env=>gs ds env
 | _,_=>none
theorem Zk:SGs X [] [] [] UO:=by
 refine⟨gNil,pgs_nil,fun C fs env σ H tf Q ds vs fp hC G r po=>?_⟩
 cases ds with
 | nil=>obtain⟨rfl,rfl⟩:=r;exact⟨rfl,po fs σ H G.drop .refl⟩
 | cons d ds=>exact po.elim
theorem JS {t:Expr} {ts:List Expr} {g:D→Env→Option Env} {gs:List D→Env→Option Env} (h1:SG X M1 V1 t g) (h2:SGs X M2 V2 ts gs)
  (hs:(assignEach (t::ts) X.env).map (·.2)=assign t X.env::(assignEach ts X.env).map (·.2):=by rfl):SGs X (M1++M2) (V1++V2) (t::ts) (JA g gs):=by
 obtain⟨t1,p1,q1⟩:=h1.go
 obtain⟨t2,p2,q2⟩:=h2.go
 refine⟨gCons t1 t2,pgs_cons p1 p2 hs,fun C fs env σ H tf Q ds vs fp hC G r po=>?_⟩
 cases ds with
 | nil=>exact po.elim
 | cons d ds =>
  obtain⟨v,vs',f1,f2,rfl,r1,r2,rfl⟩:=r
  refine⟨v,vs',rfl,?_⟩
  have po':QX C (M1++M2) (V1++V2) tf fs env σ H Q ((g d env).bind fun env=>gs ds env):=po
  refine q1 C fs env σ H (f2++tf) _ d v f1 hC (by rw[←List.append_assoc];exact G) r1 ?_
  cases e1:g d env with
  | none=>rw[e1]at po';exact po'.elim
  | some env1 =>
   rw[e1]at po'
   intro fs1 σ1 H1 G1 s1
   refine q2 C fs1 env1 σ1 H1 tf Q ds vs' f2 hC G1 (r2.keep (fun a ha=>s1.s.t a (List.mem_append_left _ ha)) s1.s.m) ?_
   have po2:QX C (M1++M2) (V1++V2) tf fs env σ H Q (gs ds env1):=po'
   have w1:=s1.weak (fun _ z=>z) (fun _ z=>z) (tf':=tf) fun x hx=>List.mem_append_right _ hx
   cases e2:gs ds env1 with
   | none=>rw[e2]at po2;exact po2.elim
   | some env2 =>
    rw[e2]at po2
    exact fun fs2 σ2 H2 G2 s2=>po2 fs2 σ2 H2 G2 (w1.trans s2)
def UF (n:Nat) (gs:List D→Env→Option Env):D→Env→Option Env
 | .tup ds,env=>if ds.length=n then gs ds env else none
 | _,_=>none
theorem Qe {ts:List Expr} {k:Nat} {gs:List D→Env→Option Env} (hc:X.calm=true) (h:SGs X M V1 ts gs) (hst:(assignEach ts X.env).findIdx? (·.1)=none:=by rfl) :
  SG X M V1 (.Tuple ts k pos) (UF (assignEach ts X.env).length gs):=by
 obtain⟨t,p,q⟩:=h.go
 refine⟨gTup X.K (assignEach ts X.env).length t,pg_tup hc p rfl hst,fun C fs env σ H tf Q d v fp hC G r po=>?_⟩
 cases d with
 | tup ds =>
  obtain⟨a,vs,rfl,hq,rs⟩:=JB hC r
  have po':QX C M V1 tf fs env σ H Q (if ds.length=(assignEach ts X.env).length then gs ds env else none):=po
  by_cases hl:ds.length=(assignEach ts X.env).length
  ·rw[if_pos hl]at po'
   exact⟨a,vs,rfl,hq,by rw[←Jh rs];exact hl,q C fs env σ H tf Q ds vs fp hC G rs po'⟩
  ·rw[if_neg hl]at po';exact po'.elim
 | _=>exact po.elim
def sAsg (c:CE) (g:D→Env→Option Env):CS:=fun env=>match c env with
 | .ok d env=>match g d env with
  | some env=>.nx env
  | none=>.err
 | .ex x env=>.ex x env
 | .err=>.err
theorem Jdh {t:TE} {g:TG} {gd:D→Env→Option Env} {tf fs env E} (hC:C.At X) (G:Good C fs env σ H tf)
  (q:∀C fs env σ H tf Q,C.At X→Good C fs env σ H tf→Yw W C M1 tf fs env σ H Q (ca env)→t σ H Q)
  (qg:∀C fs env σ H tf Q d v fp,C.At X→Good C fs env σ H (fp++tf)→Rep C H d v fp→QX C M2 V2 tf fs env σ H Q (gd d env)→g v σ H Q)
  (po:UU W C (M1++M2) V2 tf fs env σ H E (sAsg ca gd env)):t σ H fun x H1=>g x σ H1 E.nx:=by
 refine q C fs env σ H tf _ hC G ?_
 unfold sAsg at po
 cases e1:ca env with
 | err=>rw[e1]at po;exact po
 | ex x env'=>rw[e1]at po;exact fun cv dd fs' H' G' s=>po cv dd fs' σ H' G' (s.ss.weak YM (fun _ z=>nomatch z) fun _ z=>z)
 | ok d env1 =>
  rw[e1]at po
  intro v fs1 H1 fp G1 s1 r1
  refine qg C fs1 env1 σ H1 tf _ d v fp hC G1 r1 ?_
  have po':UU W C (M1++M2) V2 tf fs env σ H E (match gd d env1 with
   | some env=>.nx env
   | none=>.err):=po
  cases e2:gd d env1 with
  | none=>rw[e2]at po';exact po'
  | some env2 =>
   rw[e2]at po'
   exact fun fs2 σ2 H2 G2 s2=>po' fs2 σ2 H2 G2 (s1.ss.trans s2)
theorem ss_set (i:Nat) {x:Str} {pos':Pos} (hN:X.N.Nodup) (h:SO X W M e ca) (hi:X.N[i]?=some x:=by rfl) (hx:Loc X.env.scope x:=by first | exact .inl rfl | exact .inr rfl) (hs:swapsWith e (some (.Name x pos')) pos.line X.env=pure false:=by rfl) (hf:X.fn x=true∨X.env.scope.names.lookup x=some .local:=by first | exact .inl rfl | exact .inr rfl | assumption) :
  SS X W (M++[i]) [i] (.Assign [.Name x pos'] e pos) (sAsg ca (gSet i)):=by
 obtain⟨t,p,q⟩:=h.go
 refine⟨tAsg t (gName i),ps_set hN hi hx p hs hf,fun C fs env σ H tf E hC G po=>?_⟩
 exact Jdh (gd:=gSet i) (M2:=[i]) (V2:=[i]) hC G q (fun C fs env σ H tf Q d v fp hC G r po=>po _ _ _ (G.put r) (StepS.put G)) po
theorem Zp {tg:Expr} {g:D→Env→Option Env} (h:SO X W M e ca) (hg:SG X M2 V2 tg g) (hs:swapsWithSole [tg] e pos.line X.env=pure false:=by rfl) (hw:swappedStores [tg] e X.env=pure none:=by rfl)
  (h1:(assignEach [tg] X.env).map (·.2)=[assign tg X.env]:=by rfl):SS X W (M++M2) V2 (.Assign [tg] e pos) (sAsg ca g):=by
 obtain⟨t,p,q⟩:=h.go
 obtain⟨t2,p2,q2⟩:=hg.go
 refine⟨tAsg t t2,ps_asg p p2 hs hw h1,fun C fs env σ H tf E hC G po=>?_⟩
 exact Jdh (gd:=g) (M2:=M2) (V2:=V2) hC G q q2 po
def sPar (i j:Nat) (cs:CA):CS:=fun env=>match cs env with
 | .ok [d,e] env=>.nx ((env.set i (some d)).set j (some e))
 | .ok _ _=>.err
 | .ex x env=>.ex x env
 | .err=>.err
theorem ss_par (i j:Nat) {x y:Str} {px py pt:Pos} {kt k2 pt2} (hc:X.calm=true) (hN:X.N.Nodup) (ha:SAO X W M [a,b] cs) (hi:X.N[i]?=some x:=by rfl) (hj:X.N[j]?=some y:=by rfl) (hij:i≠j:=by decide)
  (hx:X.env.scope.names.lookup x=some .local:=by rfl) (hy:X.env.scope.names.lookup y=some .local:=by rfl)
  (hw:swappedStores [.Tuple [.Name x px,.Name y py] kt pt] (.Tuple [a,b] k2 pt2) X.env=pure (some [x,y]):=by rfl)
  (hs:swapsWithSole [.Tuple [.Name x px,.Name y py] kt pt] (.Tuple [a,b] k2 pt2) pos.line X.env=pure false:=by rfl) :
  SS X W (M++([i]++[j])) ([i]++[j]) (.Assign [.Tuple [.Name x px,.Name y py] kt pt] (.Tuple [a,b] k2 pt2) pos) (sPar i j cs):=by
 obtain⟨t,p,q⟩:=ha.go
 refine⟨tPar i j t,ps_par hc hN hi hj hij hx hy p hw hs,fun C fs env σ H tf E hC G po=>q C fs env σ H tf _ hC G ?_⟩
 unfold sPar at po
 cases e1:cs env with
 | err=>rw[e1]at po;exact po
 | ex x env'=>rw[e1]at po;exact fun cv dd fs' H' G' s=>po cv dd fs' σ H' G' (s.ss.weak YM (fun _ z=>nomatch z) fun _ z=>z)
 | ok ds env1 =>
  rw[e1]at po
  intro vs fs1 H1 fp G1 s1 r1
  match ds,r1,po with
  | [],_,po=>exact po.elim
  | [_],_,po=>exact po.elim
  | _::_::_::_,_,po=>exact po.elim
  | [d,d2],r1,po =>
   obtain⟨v,w,f1,f2,rfl,ra,r2,rfl⟩:=JcS r1
   refine⟨v,w,rfl,?_⟩
   have G1':Good C fs1 env1 σ H1 (f1++(f2++tf)):=by rw[←List.append_assoc];exact G1
   have Ga:=G1'.put (i:=i) ra
   have Gb:=Ga.put (i:=j) r2
   have sa:=StepS.put (i:=i) (d:=d) (v:=v) G1'
   have sb:=StepS.put (i:=j) (d:=d2) (v:=w) Ga
   refine po _ _ _ Gb ?_
   exact s1.ss.trans ((sa.weak (fun _ z=>z) (fun _ z=>z) fun x hx=>List.mem_append_right _ hx).trans sb)
end
end VS
namespace VS
open PySem L2 SeqAt
structure SrcOk (C:Ctx) (J:It) (ds:List D) (fp:List Addr) (H1:Hp):Prop where
 walk:Walk J ds.length (fun H=>Fr C H∧Mono H1 H∧∀a∈fp,H a=H1 a) (fun i H x H'=>Le H H'∧∃d,ds[i]?=some d∧Rep C H' d x [])
def JcE (W:WX) (C:Ctx) (M Rs:List Nat) (tf:List Addr) (fs:FPs) (env:Env) (σ:St) (H:Hp) (Q:It→Hp→Prop):R (List D)→Prop
 | .ok ds env'=>∀J fs' H' fp own,Good C fs' env' σ H' (own++tf)→Step M tf fs env H fs' env' H'→SrcOk C J ds fp H'→In Rs own fs' fp→Q J H'
 | .ex x env'=>∀cv dd fs' H',Good C fs' env' σ H' tf→Step M tf fs env H fs' env' H'→ExIs C x cv dd H'→W cv dd σ H'
 | .err=>False
structure SI (X:Cx) (W:WX) (M Rs:List Nat) (tg e:Expr) (c:CA):Prop where
 go:∃t,PI X tg e t∧∀C fs env σ H tf Q,C.At X→Good C fs env σ H tf→JcE W C M Rs tf fs env σ H Q (c env)→t σ H Q
def YJ (g:D→Env→Option Env) (body:CS):List D→Env→O
 | [],env=>.nx env
 | d::ds,env=>match g d env with
  | none=>.err
  | some env1=>match body env1 with
   | .nx env2=>YJ g body ds env2
   | .ct env2=>YJ g body ds env2
   | .bk env2=>.nx env2
   | o=>o
def sFor (src:CA) (g:D→Env→Option Env) (body:CS):CS:=fun env=>match src env with
 | .ok ds env=>YJ g body ds env
 | .ex x env=>.ex x env
 | .err=>.err
section
variable {X:Cx} {W:WX} {M M1 M2 M3 V1 V2 V3 Rs R1 R2 R3:List Nat} {e a b c tg:Expr} {es:List Expr} {ca cb cc:CE} {cs src:CA} {ct:CT} {pos p:Pos} {st:Stmt} {sts body:List Stmt} {c1 c2' c3 cb':CS} {g:D→Env→Option Env}
variable {pins:List (Addr × Obj)} {σ:St} {H:Hp} {s:Shared} {C:Ctx}
theorem Zn (hp:PassesOwn (model X.prog X.w) X.A X.env X.xe) (hc:X.calm=true) (hi:SI X W M1 R1 tg e src) (hg:SG X M2 V2 tg g) (hb:SSs X W M3 V3 body cb')
  (hd:djB R1 (M2++M3)=true:=by decide) (hs:∀x,foldedSetIterable e X.env x=pure x:=by intro _;rfl):SS X W (M1++(M2++M3)) (V2++V3) (.For tg e body [] pos) (sFor src g cb'):=by
 obtain⟨t,p,q⟩:=hi.go
 obtain⟨t2,p2,q2⟩:=hg.go
 obtain⟨t3,p3,q3⟩:=hb.go
 refine⟨tFor t t2 t3,ps_for hp hc p p2 p3 hs,fun C fs env σ H tf E hC G po=>?_⟩
 show t σ H fun J H1=>_
 refine q C fs env σ H tf _ hC G ?_
 unfold sFor at po
 cases e1:src env with
 | err=>rw[e1]at po;exact po
 | ex x env'=>rw[e1]at po;exact fun cv dd fs' H' G' s=>po cv dd fs' σ H' G' (s.ss.weak YM (fun _ z=>nomatch z) fun _ z=>z)
 | ok ds env1 =>
  rw[e1]at po
  intro J fs1 H1 fp own G1 s1 src1 i1
  have po1:UU W C (M1++(M2++M3)) ([]++(V2++V3)) tf fs env σ H E (YJ g cb' ds env1):=po
  have po2:=UU.step s1.ss po1
  have dj:=US hd
  refine for_it (n:=ds.length) src1.walk (fun i σ' H'=>∃fs' env',Good C fs' env' σ' H' (own++tf)∧StepS (M2++M3) (V2++V3) (own++tf) fs1 env1 σ H1 fs' env' σ' H'∧UU W C (M2++M3) (V2++V3) tf fs1 env1 σ H1 E (YJ g cb' (ds.drop i) env'))
   ⟨fs1,env1,G1,.refl,by simpa using po2⟩ ?_ ?_ ?_
  ·rintro i σ' H' hi ⟨fs',env',G',s',_⟩
   exact⟨G'.fr,s'.s.m,i1.keep s'.s dj⟩
  ·rintro i x σ' H' H2 hi ⟨fs',env',G',s',po'⟩ ⟨le,d,hd',rd⟩
   have hdrop:ds.drop i=d::ds.drop (i+1):=by
    rw[List.drop_eq_getElem_cons hi]
    have:=List.getElem?_eq_some_iff.mp hd'
    obtain⟨_,h⟩:=this
    rw[h]
   rw[hdrop]at po'
   have G2:=G'.le' le
   have s2:=s'.trans (Step.grow (M:=[]) G' le).ss
   have s2:StepS (M2++M3) (V2++V3) (own++tf) fs1 env1 σ H1 fs' env' σ' H2:=by simpa using s2
   have po3:UU W C (M2++M3) (V2++V3) tf fs1 env1 σ H1 E (match g d env' with
    | none=>.err
    | some env1=>match cb' env1 with
     | .nx env2=>YJ g cb' (ds.drop (i+1)) env2
     | .ct env2=>YJ g cb' (ds.drop (i+1)) env2
     | .bk env2=>.nx env2
     | o=>o):=po'
   refine q2 C fs' env' σ' H2 (own++tf) _ d x [] hC (by simpa using G2) rd ?_
   cases eg:g d env' with
   | none=>rw[eg]at po3;exact po3.elim
   | some env3 =>
    rw[eg]at po3
    intro fs3 σ3 H3 G3 s3
    refine q3 C fs3 env3 σ3 H3 (own++tf) _ hC G3 ?_
    have po4:UU W C (M2++M3) (V2++V3) tf fs1 env1 σ H1 E (match cb' env3 with
     | .nx env2=>YJ g cb' (ds.drop (i+1)) env2
     | .ct env2=>YJ g cb' (ds.drop (i+1)) env2
     | .bk env2=>.nx env2
     | o=>o):=po3
    have s3':StepS (M2++M3) (V2++V3) (own++tf) fs1 env1 σ H1 fs3 env3 σ3 H3:=(s2.trans (s3.weak YM YM (M':=M2++M3) (Vs':=V2++V3) fun _ z=>z)).weak (fun i hi=>(List.mem_append.mp hi).elim id id) (fun i hi=>(List.mem_append.mp hi).elim id id) fun _ z=>z
    have comp:∀{fs4 env4 σ4 H4},StepS M3 V3 (own++tf) fs3 env3 σ3 H3 fs4 env4 σ4 H4→StepS (M2++M3) (V2++V3) (own++tf) fs1 env1 σ H1 fs4 env4 σ4 H4:=fun {fs4 env4 σ4 H4} s4 =>
     (s3'.trans (s4.weak (M':=M2++M3) (Vs':=V2++V3) Jbh Jbh fun _ z=>z)).weak (fun i hi=>(List.mem_append.mp hi).elim id id) (fun i hi=>(List.mem_append.mp hi).elim id id) fun _ z=>z
    have tfw:∀{fs4 env4 σ4 H4},StepS M3 V3 (own++tf) fs3 env3 σ3 H3 fs4 env4 σ4 H4→StepS (M2++M3) (V2++V3) tf fs1 env1 σ H1 fs4 env4 σ4 H4:=fun {fs4 env4 σ4 H4} s4=>(comp s4).weak (fun _ z=>z) (fun _ z=>z) fun x hx=>List.mem_append_right _ hx
    cases eb:cb' env3 with
    | nx env4 =>
     rw[eb]at po4
     exact fun fs4 σ4 H4 G4 s4=>⟨fs4,env4,G4,comp s4,po4⟩
    | ct env4 =>
     rw[eb]at po4
     exact fun fs4 σ4 H4 G4 s4=>⟨fs4,env4,G4,comp s4,po4⟩
    | bk env4 =>
     rw[eb]at po4
     exact fun fs4 σ4 H4 G4 s4=>po4 fs4 σ4 H4 G4.drop (tfw s4)
    | rt d4 env4 =>
     rw[eb]at po4
     intro v fs4 σ4 H4 fp4 G4 s4 r4
     refine po4 v fs4 σ4 H4 fp4 (G4.sub ?_) (tfw s4) r4
     exact(List.Sublist.refl _).append (List.sublist_append_right _ _)
    | ex x4 env4 =>
     rw[eb]at po4
     exact fun cv dd fs4 σ4 H4 G4 s4=>po4 cv dd fs4 σ4 H4 G4.drop (tfw s4)
    | err=>rw[eb]at po4;exact po4
  ·rintro σ' H' ⟨fs',env',G',s',po'⟩
   rw[List.drop_length]at po'
   exact po' fs' σ' H' G'.drop (s'.weak (fun _ z=>z) (fun _ z=>z) fun x hx=>List.mem_append_right _ hx)
def Za:List D→Option (List D)
 | [.int j]=>if -(2 ^ 62)≤j∧j < 2 ^ 62 then some ((List.range j.toNat).map fun i=>.int (i:Nat)) else none
 | _=>none
def Zj (cs:CA):CA:=fun env=>(cs env).bind fun ds env=>R.of (Za ds) env
theorem srcRange {lo:Int} {n:Nat}:SrcOk C (Itr lo n) ((List.range n).map fun (i:Nat)=>D.int (lo+(i:Nat))) [] H:=by
 refine⟨?_⟩
 have hl:((List.range n).map fun (i:Nat)=>D.int (lo+(i:Nat))).length=n:=by simp
 rw[hl]
 refine walk_range.mono (fun _ _=>trivial) fun i H x H' hi _ ⟨e1,e2⟩=>?_
 subst e1 e2
 exact⟨.refl _,.int (lo+i),by simp[hi],rfl,rfl⟩
theorem Qt {p2:Pos} (hg:Gl X "range") (hm:X.mg "range" = none) (ha:SA X W M Rs [a] cs) (hs:starEach [a] X.env=[(false,eval a X.env)]:=by rfl):SI X W M [] tg (.Call (.Name "range" p2) [a] [] pos) (Zj cs):=by
 obtain⟨t,p,q⟩:=ha.go
 refine⟨iRng1 t,pi_range1 hg hm p hs,fun C fs env σ H tf Q hC G po=>q C fs env σ H tf _ hC G ?_⟩
 unfold Zj at po
 cases e1:cs env with
 | err=>rw[e1]at po;exact po
 | ex x env'=>rw[e1]at po;exact po
 | ok ds env1 =>
  rw[e1]at po
  intro vs fs1 H1 fp own G1 s1 r1 i1
  have po':JcE W C M [] tf fs env σ H Q (R.of (Za ds) env1):=po
  cases e2:Za ds with
  | none=>rw[e2]at po';exact po'.elim
  | some its =>
   rw[e2]at po'
   unfold Za at e2
   split at e2
   ·rename_i j
    obtain⟨v,rfl,r⟩:=YZ r1
    obtain⟨rfl,_⟩:=r
    split at e2
    ·rename_i hj
     cases e2
     refine⟨j,rfl,hj.1,hj.2,po' _ fs1 H1 [] [] (by simpa using G1.drop) s1 ?_ fun _ z=>nomatch z⟩
     have:=srcRange (C:=C) (H:=H1) (lo:=0) (n:=j.toNat)
     simpa using this
    ·cases e2
   ·cases e2
def iSeq (c:CE):CA:=fun env=>(c env).bind fun d env=>match d with
 | .lst _ ds=>if imms ds then .ok ds env else .err
 | _=>.err
theorem UX:∀{ds:List D} {vs:List V} {fp:List Addr} {i:Nat} {x:V},Reps C H ds vs fp→imms ds=true→vs[i]?=some x→∃d,ds[i]?=some d∧Rep C H d x []
 | [],vs,fp,i,x,⟨e,_⟩,_,h=>by subst e;simp at h
 | d::ds,vs,fp,0,x,⟨v,vs',f1,f2,e,r,rs,_⟩,hi,h=>by
  subst e
  have z:=Bool.and_eq_true_iff.mp hi
  simp at h;subst h
  have:=r.imm z.1
  subst this
  exact⟨d,by simp,r⟩
 | d::ds,vs,fp,i+1,x,⟨v,vs',f1,f2,e,r,rs,_⟩,hi,h=>by
  subst e
  have z:=Bool.and_eq_true_iff.mp hi
  obtain⟨d',h1,h2⟩:=UX (i:=i) rs z.2 (by simpa using h)
  exact⟨d',by simpa using h1,h2⟩
theorem si_list (h:SB X W M Rs e ca):SI X W M Rs tg e (iSeq ca):=by
 obtain⟨t,p,q⟩:=h.go
 refine⟨iList X.K t,pi_list p,fun C fs env σ H tf Q hC G po=>q C fs env σ H tf _ hC G ?_⟩
 unfold iSeq at po
 cases e1:ca env with
 | err=>rw[e1]at po;exact po
 | ex x env'=>rw[e1]at po;exact po
 | ok d env1 =>
  rw[e1]at po
  intro v fs1 H1 fp own G1 s1 r1 i1
  cases d with
  | lst g ds =>
   have po':JcE W C M Rs tf fs env σ H Q (if imms ds then .ok ds env1 else .err):=po
   by_cases hi:imms ds=true
   ·rw[if_pos hi]at po'
    have r1':=r1
    obtain⟨a,vs,f1,f2,rfl,n,rs,hz,ef⟩:=r1
    have sq:SqL X.K H1 a vs:=by have:=(Nd.rd n G1.fr).sql;rwa[hC.1]at this
    refine⟨a,rfl,⟨vs,sq⟩,po' _ fs1 H1 fp own G1 s1 ⟨?_⟩ i1⟩
    have z:=rs.imm hi
    subst z
    rw[Jh rs]
    refine Walk.mono (walk_list (K:=X.K) (a:=a) (xs:=vs)) (fun H2 ⟨hf2,hm,hk⟩=>?_) fun i H2 x H3 hi2 ⟨hf2,hm,hk⟩ ⟨e1,e2⟩=>?_
    ·have n2:Nd C H2 g a (.lst vs) f1:=Nd.keep n (fun b hb=>hk b (by rw[ef];simp[hb])) hm
     have:=(Nd.rd n2 hf2).sql;rwa[hC.1]at this
    ·subst e1
     have rs2:Reps C H3 ds vs []:=rs.keep (fun b hb=>nomatch hb) hm
     obtain⟨d,h1,h2⟩:=UX rs2 hi e2
     exact⟨.refl _,d,h1,h2⟩
   ·rw[if_neg hi]at po';exact po'.elim
  | _=>exact po.elim
def Jeh (c:CE):CA:=fun env=>(c env).bind fun d env=>match d with
 | .tup ds=>if imms ds then .ok ds env else .err
 | _=>.err
theorem si_tup (h:SB X W M Rs e ca):SI X W M Rs tg e (Jeh ca):=by
 obtain⟨t,p,q⟩:=h.go
 refine⟨iTup X.K t,pi_tup p,fun C fs env σ H tf Q hC G po=>q C fs env σ H tf _ hC G ?_⟩
 unfold Jeh at po
 cases e1:ca env with
 | err=>rw[e1]at po;exact po
 | ex x env'=>rw[e1]at po;exact po
 | ok d env1 =>
  rw[e1]at po
  intro v fs1 H1 fp own G1 s1 r1 i1
  cases d with
  | tup ds =>
   have po':JcE W C M Rs tf fs env σ H Q (if imms ds then .ok ds env1 else .err):=po
   by_cases hi:imms ds=true
   ·rw[if_pos hi]at po'
    have r1':=r1
    obtain⟨a,vs,rfl,n,rs⟩:=r1
    have sq:SqT X.K H1 a vs:=by rwa[hC.1]at n
    refine⟨a,rfl,⟨vs,sq⟩,po' _ fs1 H1 fp own G1 s1 ⟨?_⟩ i1⟩
    have z:=rs.imm hi
    subst z
    rw[Jh rs]
    refine Walk.mono (walk_tup (K:=X.K) (a:=a) (xs:=vs)) (fun H2 ⟨hf2,hm,hk⟩=>?_) fun i H2 x H3 hi2 ⟨hf2,hm,hk⟩ ⟨e1,e2⟩=>?_
    ·exact QP sq hm
    ·subst e1
     have rs2:Reps C H3 ds vs []:=rs.keep (fun b hb=>nomatch hb) hm
     obtain⟨d,h1,h2⟩:=UX rs2 hi e2
     exact⟨.refl _,d,h1,h2⟩
   ·rw[if_neg hi]at po';exact po'.elim
  | _=>exact po.elim
end
end VS
namespace VS
open PySem L2 SeqAt PySem.Spec PyProof.Rows
section
variable {C C':Ctx} {H:Hp}
structure Enter (C C':Ctx) (H:Hp):Prop where
 k:C'.K=C.K
 mg:C'.mg=C.mg
 h0:C'.H0=H
 lk:C'.Lk=C.Lk
 fr:Fr C H
 a:∀x∈C'.A,(x∈C.A∨C.H0 x=none)∧∃o,H x=some o∧Mutb o
theorem Enter.lnd {g a u fp} (E:Enter C C' H) (n:Nd C H g a u fp) (hd:∀b∈fp,b∉C'.A):Nd C' H g.lend a u []:=by
 have z:∀{o w},H a=some (.frz o w)→a∉C'.A:=fun {o w} e hm=>by
  obtain⟨_,q,e2,mu⟩:=E.a a hm
  rw[e]at e2;cases e2;exact mu
 cases g with
 | m =>
  obtain⟨e,rfl⟩:=n
  exact⟨.inl ⟨by rw[E.h0];exact .inl e,hd a (by simp)⟩,rfl⟩
 | l =>
  obtain⟨⟨r,na⟩ | h,_⟩:=n
  ·have nA:a∉C'.A:=fun hm=>by
    obtain⟨q,o,e,mu⟩:=E.a a hm
    rcases q with q | q
    ·exact na q
    ·rcases r with r | ⟨ob,r⟩<;>rw[q]at r<;>cases r
   refine⟨.inl ⟨?_,nA⟩,rfl⟩
   rw[E.h0]
   rcases r with r | ⟨ob,r⟩
   ·rcases E.fr a _ r na with q | ⟨_,_,ob,q⟩
    ·exact .inl q
    ·exact .inr ⟨ob,q⟩
   ·rcases E.fr a _ r na with q | ⟨_,mu,ob2,q⟩
    ·exact .inr ⟨ob,q⟩
    ·exact mu.elim
  ·exact⟨.inr (by rw[E.k];exact h),rfl⟩
 | f =>
  obtain⟨⟨o,e⟩,x,_⟩:=n
  exact⟨.inl ⟨by rw[E.h0];exact .inr ⟨o,e⟩,z e⟩,rfl⟩
 | k =>
  obtain⟨⟨o,e⟩,_⟩:=n
  exact⟨.inl ⟨by rw[E.h0];exact .inr ⟨o,e⟩,z e⟩,rfl⟩
theorem Enter.nd {g a u fp} (E:Enter C C' H) (n:Nd C H g a u fp):Nd C' H g a u fp:=by
 cases g with
 | m=>exact n
 | l=>obtain⟨h,e⟩:=n;subst e;exact E.lnd (g:=.l) ⟨h,rfl⟩ fun _ z=>nomatch z
 | f=>obtain⟨⟨o,e⟩,x,q⟩:=n;exact⟨⟨o,e⟩,by rw[E.lk];exact x,q⟩
 | k=>exact n
theorem Zt {c Ca} (h:C'.mg=C.mg) (q:Jcw C c Ca):Jcw C' c Ca:=by unfold Jcw at *;rw[h];exact q
mutual
theorem Rep.enter (E:Enter C C' H):∀{d:D} {v:V} {fp:List Addr},Rep C H d v fp→Rep C' H d v fp
 | .non,v,fp,h=>h
 | .bl b,v,fp,h=>h
 | .int i,v,fp,h=>h
 | .str s,v,fp,h=>h
 | .ty s,v,fp,h=>h
 | .tup ds,v,fp,⟨a,vs,e,t,r⟩=>⟨a,vs,e,by rw[E.k];exact t,Reps.enter E r⟩
 | .ftu ds,v,fp,⟨a,vs,e,t,r⟩=>⟨a,vs,e,t,Reps.enter E r⟩
 | .lst g ds,v,fp,⟨a,vs,f1,f2,e,n,r,z,e2⟩=>⟨a,vs,f1,f2,e,E.nd n,Reps.enter E r,z,e2⟩
 | .dct g ks ds,v,fp,⟨a,vs,f1,f2,e,n,q,r,z,e2⟩=>⟨a,vs,f1,f2,e,E.nd n,q,Reps.enter E r,z,e2⟩
 | .obj g c ns ds,v,fp,⟨a,Ca,dx,fs,f1,f2,e,c1,n,q,r,z,e2⟩=>⟨a,Ca,dx,fs,f1,f2,e,Zt E.mg c1,E.nd n,q,Reps.enter E r,z,e2⟩
 | .exc c ns ds,v,fp,⟨a,Ca,d,fs,e,c1,n,x,q,r,e2⟩=>⟨a,Ca,d,fs,e,Zt E.mg c1,n,x,q,Reps.enter E r,e2⟩
theorem Reps.enter (E:Enter C C' H):∀{ds:List D} {vs:List V} {fp:List Addr},Reps C H ds vs fp→Reps C' H ds vs fp
 | [],vs,fp,h=>h
 | d::ds,vs,fp,⟨v,vs',f1,f2,e,r,rs,e2⟩=>⟨v,vs',f1,f2,e,Rep.enter E r,Reps.enter E rs,e2⟩
end
mutual
theorem Rep.lend (E:Enter C C' H):∀{d:D} {v:V} {fp:List Addr},Rep C H d v fp→(∀b∈fp,b∉C'.A)→Rep C' H d.lend v []
 | .non,v,fp,h,_=>⟨h.1,rfl⟩
 | .bl b,v,fp,h,_=>⟨h.1,rfl⟩
 | .int i,v,fp,h,_=>⟨h.1,rfl⟩
 | .str s,v,fp,h,_=>⟨h.1,rfl⟩
 | .ty s,v,fp,h,_=>⟨h.1,rfl⟩
 | .tup ds,v,fp,⟨a,vs,e,t,r⟩,hd=>⟨a,vs,e,by rw[E.k];exact t,Reps.lend E r hd⟩
 | .ftu ds,v,fp,⟨a,vs,e,t,r⟩,hd=>⟨a,vs,e,t,Reps.lend E r hd⟩
 | .lst g ds,v,fp,⟨a,vs,f1,f2,e,n,r,z,e2⟩,hd=>⟨a,vs,[],[],e,E.lnd n (fun b hb=>hd b (by rw[e2];exact List.mem_append_left _ hb)),Reps.lend E r (fun b hb=>hd b (by rw[e2];exact List.mem_append_right _ hb)),.inr rfl,rfl⟩
 | .dct g ks ds,v,fp,⟨a,vs,f1,f2,e,n,q,r,z,e2⟩,hd=>⟨a,vs,[],[],e,E.lnd n (fun b hb=>hd b (by rw[e2];exact List.mem_append_left _ hb)),q,Reps.lend E r (fun b hb=>hd b (by rw[e2];exact List.mem_append_right _ hb)),.inr rfl,rfl⟩
 | .obj g c ns ds,v,fp,⟨a,Ca,dx,fs,f1,f2,e,c1,n,q,r,z,e2⟩,hd=>⟨a,Ca,dx,fs,[],[],e,Zt E.mg c1,E.lnd n (fun b hb=>hd b (by rw[e2];exact List.mem_append_left _ hb)),q,Reps.lend E r (fun b hb=>hd b (by rw[e2];exact List.mem_append_right _ hb)),.inr rfl,rfl⟩
 | .exc c ns ds,v,fp,⟨a,Ca,d,fs,e,c1,n,x,q,r,e2⟩,_=>⟨a,Ca,d,fs,e,Zt E.mg c1,n,x,q,Reps.enter E r,rfl⟩
theorem Reps.lend (E:Enter C C' H):∀{ds:List D} {vs:List V} {fp:List Addr},Reps C H ds vs fp→(∀b∈fp,b∉C'.A)→Reps C' H (lends ds) vs []
 | [],vs,fp,h,_=>⟨h.1,rfl⟩
 | d::ds,vs,fp,⟨v,vs',f1,f2,e,r,rs,e2⟩,hd=>⟨v,vs',[],[],e,Rep.lend E r (fun b hb=>hd b (by rw[e2];exact List.mem_append_left _ hb)),Reps.lend E rs (fun b hb=>hd b (by rw[e2];exact List.mem_append_right _ hb)),rfl⟩
end
mutual
theorem Rep.leave (hk:C'.K=C.K) (hm:C'.mg=C.mg) (hl:C'.Lk=C.Lk):∀{d:D} {v:V} {fp:List Addr},Rep C' H d v fp→d.nol=true→Rep C H d v fp
 | .non,v,fp,h,_=>h
 | .bl b,v,fp,h,_=>h
 | .int i,v,fp,h,_=>h
 | .str s,v,fp,h,_=>h
 | .ty s,v,fp,h,_=>h
 | .tup ds,v,fp,⟨a,vs,e,t,r⟩,hn=>⟨a,vs,e,by rw[←hk];exact t,Reps.leave hk hm hl r hn⟩
 | .ftu ds,v,fp,⟨a,vs,e,t,r⟩,hn=>⟨a,vs,e,t,Reps.leave hk hm hl r hn⟩
 | .lst g ds,v,fp,⟨a,vs,f1,f2,e,n,r,z,e2⟩,hn=>⟨a,vs,f1,f2,e,nd_leave hl n (Bool.and_eq_true_iff.mp hn).1,Reps.leave hk hm hl r (Bool.and_eq_true_iff.mp hn).2,z,e2⟩
 | .dct g ks ds,v,fp,⟨a,vs,f1,f2,e,n,q,r,z,e2⟩,hn=>⟨a,vs,f1,f2,e,nd_leave hl n (Bool.and_eq_true_iff.mp hn).1,q,Reps.leave hk hm hl r (Bool.and_eq_true_iff.mp hn).2,z,e2⟩
 | .obj g c ns ds,v,fp,⟨a,Ca,dx,fs,f1,f2,e,c1,n,q,r,z,e2⟩,hn=>⟨a,Ca,dx,fs,f1,f2,e,Zt hm.symm c1,nd_leave hl n (Bool.and_eq_true_iff.mp hn).1,q,Reps.leave hk hm hl r (Bool.and_eq_true_iff.mp hn).2,z,e2⟩
 | .exc c ns ds,v,fp,⟨a,Ca,d,fs,e,c1,n,x,q,r,e2⟩,hn=>⟨a,Ca,d,fs,e,Zt hm.symm c1,n,x,q,Reps.leave hk hm hl r hn,e2⟩
theorem Reps.leave (hk:C'.K=C.K) (hm:C'.mg=C.mg) (hl:C'.Lk=C.Lk):∀{ds:List D} {vs:List V} {fp:List Addr},Reps C' H ds vs fp→nols ds=true→Reps C H ds vs fp
 | [],vs,fp,h,_=>h
 | d::ds,vs,fp,⟨v,vs',f1,f2,e,r,rs,e2⟩,hn=>⟨v,vs',f1,f2,e,Rep.leave hk hm hl r (Bool.and_eq_true_iff.mp hn).1,Reps.leave hk hm hl rs (Bool.and_eq_true_iff.mp hn).2,e2⟩
theorem nd_leave {g a u fp} (hl:C'.Lk=C.Lk) (n:Nd C' H g a u fp) (h:(g == .m || g == .f)=true):Nd C H g a u fp:=by
 cases g with
 | m=>exact n
 | l=>cases h
 | f=>obtain⟨⟨o,e⟩,x,q⟩:=n;exact⟨⟨o,e⟩,by rw[←hl];exact x,q⟩
 | k=>cases h
end
end
inductive FR where
 | ok (r:D) (outs:List D)
 | ex (x:Exn) (outs:List D)
 | err
def JK:List Bool→Env→Option (List D)
 | [],_=>some []
 | true::bs,some d::env=>(JK bs env).map (d::·)
 | false::bs,_::env=>JK bs env
 | _,_=>none
def Ue (io:List Bool):O→FR
 | .nx env=>match JK io env with
  | some os=>.ok .non os
  | none=>.err
 | .rt d env=>match JK io env with
  | some os=>.ok d os
  | none=>.err
 | .ex x env=>match JK io env with
  | some os=>.ex x os
  | none=>.err
 | _=>.err
def YG (n:Nat) (ds:List D):Env:=ds.map some++List.replicate (n - ds.length) none
def JR (n:Nat) (io:List Bool) (c:CS) (ds:List D):FR:=if ds.length=io.length∧io.length≤n then Ue io (c (YG n ds)) else .err
def ArgR (C:Ctx) (H:Hp):List Bool→List D→List V→FPs→Prop
 | [],ds,vs,fps=>ds=[]∧vs=[]∧fps=[]
 | b::bs,ds,vs,fps=>∃d ds' v vs' fp fps',ds=d::ds'∧vs=v::vs'∧fps=fp::fps'∧Rep C H d v fp∧(b=true∨fp=[])∧ArgR C H bs ds' vs' fps'
def OutR (C:Ctx) (H:Hp):List Bool→List D→List V→FPs→Prop
 | [],os,vs,fps=>os=[]∧fps=[]
 | true::bs,os,vs,fps=>∃o os' v vs' fp fps',os=o::os'∧vs=v::vs'∧fps=fp::fps'∧Rep C H o v fp∧OutR C H bs os' vs' fps'
 | false::bs,os,vs,fps=>∃v vs',vs=v::vs'∧OutR C H bs os vs' fps
def PostF (C:Ctx) (H:Hp) (io:List Bool) (vs:List V) (Q:VK) (E:XK):FR→Prop
 | .ok r os=>∀v H' fp fps,Fr C H'→Mono H H'→Rep C H' r v fp→OutR C H' io os vs fps→(fp++fps.flatten).Nodup→(∀a∈fp++fps.flatten,a∈C.A∨H a=none)→Q v H'
 | .ex x os=>∀cv dd H' fps,Fr C H'→Mono H H'→ExIs C x cv dd H'→OutR C H' io os vs fps→fps.flatten.Nodup→(∀a∈fps.flatten,a∈C.A∨H a=none)→E cv dd H'
 | .err=>False
def spF (K:PySem.W.Frag) (mg:Str→Option Value) (io:List Bool) (φ:List D→FR):Sp:=fun vs H Q E=>∃(Lk:List Addr) (ds:List D) (fps:FPs),
 vs.length=io.length∧ArgR ⟨K,mg,H,fps.flatten,Lk⟩ H io ds vs fps∧fps.flatten.Nodup∧(∀a∈Lk,∃ob u,H a=some (.frz ob u))∧PostF ⟨K,mg,H,fps.flatten,Lk⟩ H io vs Q E (φ ds)
theorem fr_entry {C:Ctx} {H:Hp} (h:C.H0=H):Fr C H:=fun a o e _=>.inl (by rw[←h];exact e)
theorem ArgR.len {C H}:∀{io ds vs fps},ArgR C H io ds vs fps→ds.length=io.length∧vs.length=io.length∧fps.length=io.length
 | [],ds,vs,fps,⟨h1,h2,h3⟩=>by subst h1 h2 h3;exact⟨rfl,rfl,rfl⟩
 | b::bs,ds,vs,fps,⟨d,ds',v,vs',fp,fps',h1,h2,h3,_,_,r⟩=>by
  subst h1 h2 h3
  obtain⟨a1,a2,a3⟩:=ArgR.len r
  exact⟨by simp[a1],by simp[a2],by simp[a3]⟩
theorem ArgR.get {C H}:∀{io ds vs fps} {i:Nat} {d:D},ArgR C H io ds vs fps→ds[i]?=some d→∃v,vs[i]?=some v∧Rep C H d v (fps.getD i [])
 | [],ds,vs,fps,i,d,⟨h1,h2,h3⟩,h=>by subst h1;simp at h
 | b::bs,ds,vs,fps,0,d,⟨d0,ds',v,vs',fp,fps',h1,h2,h3,r,_,_⟩,h=>by
  subst h1 h2 h3
  simp at h;subst h
  exact⟨v,by simp,by simpa using r⟩
 | b::bs,ds,vs,fps,i+1,d,⟨d0,ds',v,vs',fp,fps',h1,h2,h3,_,_,r⟩,h=>by
  subst h1 h2 h3
  obtain⟨v',h1,h2⟩:=ArgR.get (i:=i) r (by simpa using h)
  exact⟨v',by simpa using h1,by simpa using h2⟩
theorem ArgR.trk {C H}:∀{io ds vs fps},ArgR C H io ds vs fps→∀a∈fps.flatten,∃o,H a=some o∧Mutb o
 | [],ds,vs,fps,⟨h1,h2,h3⟩=>by subst h3;intro a ha;simp at ha
 | b::bs,ds,vs,fps,⟨d0,ds',v,vs',fp,fps',h1,h2,h3,r,_,rs⟩=>by
  subst h3
  intro a ha
  rw[List.flatten_cons]at ha
  exact(List.mem_append.mp ha).elim (r.trk a) (ArgR.trk rs a)
theorem Jbi (fps:FPs) (n:Nat):(fps++List.replicate n []).flatten=fps.flatten:=by
 rw[List.flatten_append]
 have:(List.replicate n ([]:List Addr)).flatten=[]:=by
  rw[List.flatten_eq_nil_iff];intro l hl;exact(List.mem_replicate.mp hl).2
 rw[this,List.append_nil]
theorem good_start {C:Ctx} {H:Hp} {N:List Str} {io ds vs fps} (h0:C.H0=H) (hA:C.A=fps.flatten) (r:ArgR C H io ds vs fps) (nd:fps.flatten.Nodup) (hl:io.length≤N.length) (hk:∀a∈C.Lk,∃ob u,H a=some (.frz ob u)) :
  Good C (fps++List.replicate (N.length - fps.length) []) (YG N.length ds) (L2.start N vs) H []:=by
 obtain⟨l1,l2,l3⟩:=r.len
 refine⟨?_,?_,fun i d e=>?_,?_,fun a ha=>?_,fun a ha=>?_,fr_entry h0,hk⟩
 ·simp[YG,L2.start];omega
 ·simp[L2.start];omega
 ·unfold YG at e
  have hi:i < ds.length:=by
   by_cases hi:i < ds.length
   ·exact hi
   ·rw[List.getElem?_append_right (by simp;omega)]at e
    rw[List.getElem?_replicate]at e
    split at e<;>simp at e
  rw[List.getElem?_append_left (by simpa using hi),List.getElem?_map]at e
  have e':ds[i]?=some d:=by
   cases q:ds[i]? with
   | none=>rw[q]at e;simp at e
   | some x=>rw[q]at e;simp at e;rw[e]
  obtain⟨v,h1,h2⟩:=r.get e'
  refine⟨v,?_,?_⟩
  ·unfold L2.start
   rw[List.getElem?_append_left (by simp;omega),List.getElem?_map,h1];rfl
  ·have:(fps++List.replicate (N.length - fps.length) []).getD i []=fps.getD i []:=by
    rw[List.getD_eq_getElem?_getD,List.getD_eq_getElem?_getD,List.getElem?_append_left (by omega)]
   rw[this];exact h2
 ·rw[Jbi,List.append_nil];exact nd
 ·rw[Jbi,List.append_nil]at ha;exact .inl (by rw[hA];exact ha)
 ·rw[Jbi,List.append_nil]at ha;exact r.trk a ha
def JF:Nat→List Bool→List Nat
 | _,[]=>[]
 | n,true::bs=>n::JF (n+1) bs
 | n,false::bs=>JF (n+1) bs
theorem Jab {C:Ctx} {H':Hp} {fs:FPs} {env:Env} {σ:L2.St} (hrep:∀i d,env[i]?=some (some d)→∃v,σ[i]?=some (some v)∧Rep C H' d v (fs.getD i [])):∀{n:Nat} {io:List Bool} {os:List D} {vs:List V},
  JK io (env.drop n)=some os→vs.length=io.length→(∀j∈JF n io,σ[j]?=(vs[j - n]?).map some)→OutR C H' io os vs ((JF n io).map fun j=>fs.getD j [])
 | n,[],os,vs,h,hl,hv=>by simp[JK]at h;exact⟨h.symm ▸ rfl,rfl⟩
 | n,true::bs,os,vs,h,hl,hv=>by
  cases vs with
  | nil=>simp at hl
  | cons v vs =>
   cases q:env.drop n with
   | nil=>rw[q]at h;simp[JK]at h
   | cons od rest =>
    rw[q]at h
    cases od with
    | none=>simp[JK]at h
    | some d =>
     have hd:env[n]?=some (some d):=by
      have:=congrArg List.head? q
      simpa [List.head?_drop] using this
     have hrest:rest=env.drop (n+1):=by
      have:=congrArg List.tail q
      simpa [List.tail_drop] using this.symm
     simp only[JK]at h
     obtain⟨os',h1,rfl⟩:=Option.map_eq_some_iff.mp h
     rw[hrest]at h1
     obtain⟨w,e1,r⟩:=hrep n d hd
     have:=hv n (by simp[JF])
     simp at this
     rw[this]at e1;cases e1
     refine⟨d,os',v,vs,_,_,rfl,rfl,rfl,r,Jab hrep h1 (by simpa using hl) fun j hj=>?_⟩
     have hj1:n+1≤j:=by
      have key:∀(bs:List Bool) (m:Nat),∀j∈JF m bs,m≤j:=by
       intro bs
       induction bs with
       | nil=>intro m j h;simp[JF]at h
       | cons b bs ih =>
        intro m j h
        cases b with
        | true =>
         simp only[JF,List.mem_cons]at h
         rcases h with h | h
         ·omega
         ·have:=ih _ _ h;omega
        | false=>simp only[JF]at h;have:=ih _ _ h;omega
      exact key bs (n+1) j hj
     have:=hv j (by simp[JF,hj])
     rw[this]
     have e:j - n=(j - (n+1))+1:=by omega
     rw[e];simp
 | n,false::bs,os,vs,h,hl,hv=>by
  cases vs with
  | nil=>simp at hl
  | cons v vs =>
   cases q:env.drop n with
   | nil=>rw[q]at h;simp[JK]at h
   | cons od rest =>
    rw[q]at h
    have hrest:rest=env.drop (n+1):=by
     have:=congrArg List.tail q
     simpa [List.tail_drop] using this.symm
    simp only[JK]at h
    rw[hrest]at h
    refine⟨v,vs,rfl,Jab hrep h (by simpa using hl) fun j hj=>?_⟩
    have hj1:n+1≤j:=by
     have key:∀(bs:List Bool) (m:Nat),∀j∈JF m bs,m≤j:=by
      intro bs
      induction bs with
      | nil=>intro m j h;simp[JF]at h
      | cons b bs ih =>
       intro m j h
       cases b with
       | true =>
        simp only[JF,List.mem_cons]at h
        rcases h with h | h
        ·omega
        ·have:=ih _ _ h;omega
       | false=>simp only[JF]at h;have:=ih _ _ h;omega
     exact key bs (n+1) j hj
    have:=hv j (by simp[JF,hj])
    rw[this]
    have e:j - n=(j - (n+1))+1:=by omega
    rw[e];simp
theorem QJ:∀(io:List Bool) (n:Nat),∀j∈JF n io,n≤j∧j < n+io.length
 | [],n=>by intro j h;simp[JF]at h
 | true::bs,n=>by
  intro j h
  simp only[JF,List.mem_cons]at h
  rcases h with h | h
  ·simp;omega
  ·have:=QJ bs _ _ h;simp;omega
 | false::bs,n=>by
  intro j h
  simp only[JF]at h
  have:=QJ bs _ _ h;simp;omega
theorem Zl:∀(io:List Bool) (n:Nat) (fs:FPs),(((JF n io).map fun j=>fs.getD j []).flatten).Sublist ((fs.drop n).flatten)
 | [],n,fs=>by simp[JF]
 | true::bs,n,fs=>by
  simp only[JF,List.map_cons,List.flatten_cons]
  cases q:fs.drop n with
  | nil =>
   have hn:fs.length≤n:=by simpa using q
   have:fs.getD n []=[]:=by rw[List.getD_eq_getElem?_getD,List.getElem?_eq_none hn];rfl
   rw[this,List.nil_append]
   have:=Zl bs (n+1) fs
   rw[List.drop_eq_nil_of_le (by omega)]at this
   exact this
  | cons f r =>
   have e1:fs.getD n []=f:=by
    have:=congrArg List.head? q
    rw[List.head?_drop]at this
    rw[List.getD_eq_getElem?_getD,this];rfl
   have e2:fs.drop (n+1)=r:=by
    have:=congrArg List.tail q
    simpa [List.tail_drop] using this
   rw[e1,List.flatten_cons]
   have:=Zl bs (n+1) fs
   rw[e2]at this
   exact(List.Sublist.refl f).append this
 | false::bs,n,fs=>by
  simp only[JF]
  refine (Zl bs (n+1) fs).trans ?_
  cases q:fs.drop n with
  | nil =>
   have hn:fs.length≤n:=by simpa using q
   rw[List.drop_eq_nil_of_le (by omega)];simp
  | cons f r =>
   have e2:fs.drop (n+1)=r:=by
    have:=congrArg List.tail q
    simpa [List.tail_drop] using this
   rw[e2,List.flatten_cons]
   exact List.sublist_append_right _ _
theorem JdI {X:Cx} {K:PySem.W.Frag} {mg:Str→Option Value} {scope:Scope} {sts:List Stmt} {N ps:List Str} {io:List Bool} {c:CS} {M Vs:List Nat} {vs:List V} {H:Hp} {Q:VK} {E:XK} (hK:K=X.K) (hmg:mg=X.mg)
  (S:FnScope N ps scope) (hio:io.length=ps.length) (hv:djB (JF 0 io) Vs=true) (hb:SSs X (fun cls d _ H=>E cls d H) M Vs sts c) (h:spF K mg io (JR N.length io c) vs H Q E) :
  ∃t,PSs X sts t∧t { nx:=fun _ H'=>Q .non H',rt:=Q } (L2.start N vs) H:=by
 obtain⟨Lk,ds,fps,hl,hA,nd,hk,po⟩:=h
 obtain⟨t,p,q⟩:=hb.go
 refine⟨t,p,?_⟩
 obtain⟨l1,l2,l3⟩:=hA.len
 have hN:io.length≤N.length:=by
  have:=congrArg List.length S.pre
  rw[List.length_take]at this
  omega
 have G:=good_start (C:=⟨K,mg,H,fps.flatten,Lk⟩) (N:=N) rfl rfl hA nd hN hk
 unfold JR at po
 rw[if_pos ⟨l1,hN⟩]at po
 have vals:∀{σ':L2.St},(∀i,i∉Vs→σ'[i]?=(L2.start N vs)[i]?)→∀j∈JF 0 io,σ'[j]?=(vs[j - 0]?).map some:=fun {σ'} h j hj=>by
  rw[h j (US hv j hj),Nat.sub_zero]
  have:=QJ io 0 j hj
  unfold L2.start
  rw[List.getElem?_append_left (by simp;omega),List.getElem?_map]
 have own:∀{fs' env' σ' H' fp},Good ⟨K,mg,H,fps.flatten,Lk⟩ fs' env' σ' H' (fp++[])→(fp++((JF 0 io).map fun j=>fs'.getD j []).flatten).Nodup∧∀a∈fp++((JF 0 io).map fun j=>fs'.getD j []).flatten,a∈fps.flatten∨H a=none:=fun {fs' env' σ' H' fp} G'=>by
  have sub:=Zl io 0 fs'
  rw[List.drop_zero]at sub
  have p1:(fp++fs'.flatten).Perm (fs'.flatten++(fp++[])):=by rw[List.append_nil];exact List.perm_append_comm
  have s2:=(List.Sublist.refl fp).append sub
  exact⟨(p1.nodup_iff.mpr G'.nd).sublist s2,fun a ha=>G'.own a (p1.mem_iff.mp (s2.subset ha))⟩
 refine q ⟨K,mg,H,fps.flatten,Lk⟩ _ (YG N.length ds) (L2.start N vs) H [] _ ⟨hK,hmg⟩ G ?_
 cases eo:c (YG N.length ds) with
 | nx env' =>
  rw[eo]at po
  intro fs' σ' H' G' s'
  simp only[Ue]at po
  cases e2:JK io env' with
  | none=>rw[e2]at po;exact po.elim
  | some os =>
   rw[e2]at po
   obtain⟨o1,o2⟩:=own (fp:=[]) (by simpa using G')
   exact po .non H' [] _ G'.fr s'.s.m ⟨rfl,rfl⟩ (Jab (n:=0) G'.rep (by rw[List.drop_zero];exact e2) hl (vals s'.v)) o1 o2
 | rt d env' =>
  rw[eo]at po
  intro v fs' σ' H' fp G' s' r
  simp only[Ue]at po
  cases e2:JK io env' with
  | none=>rw[e2]at po;exact po.elim
  | some os =>
   rw[e2]at po
   obtain⟨o1,o2⟩:=own G'
   exact po v H' fp _ G'.fr s'.s.m r (Jab (n:=0) G'.rep (by rw[List.drop_zero];exact e2) hl (vals s'.v)) o1 o2
 | ex x env' =>
  rw[eo]at po
  intro cv dd fs' σ' H' G' s' hx
  simp only[Ue]at po
  cases e2:JK io env' with
  | none=>rw[e2]at po;exact po.elim
  | some os =>
   rw[e2]at po
   obtain⟨o1,o2⟩:=own (fp:=[]) (by simpa using G')
   exact po cv dd H' _ G'.fr s'.s.m hx (Jab (n:=0) G'.rep (by rw[List.drop_zero];exact e2) hl (vals s'.v)) (by simpa using o1) (by simpa using o2)
 | bk env'=>rw[eo]at po;exact po.elim
 | ct env'=>rw[eo]at po;exact po.elim
 | err=>rw[eo]at po;exact po.elim
theorem fn_ok {P:Program} {w:World} {K:PySem.W.Frag} {mg:Str→Option Value} {base:Heap} {x qual:Str} {st:Stmt} {f:Addr} {fd:FuncData} {N ps:List Str} {k:Nat} {io:List Bool} {c:CS} {M Vs:List Nat}
  (F:Fun K x qual st f fd) (S:FnScope N ps (defScope st)) (hio:io.length=ps.length) (hv:djB (JF 0 io) Vs=true)
  (hb:∀(cdv:Value) (A:Around) (outer:List PySem.Env) (s:Shared) (H:Hp) (E:XK),Room k (A.deeper (envOfC qual (defScope st) s.heap.objs.size f cdv)) →
   SSs (cxOf (L2.CX P w) P w K mg base N qual (defScope st) f cdv A outer s H E) (fun cls d _ H=>E cls d H) M Vs (defBody st) c) :
  FnOk P w K mg base (L2.CX P w) (k+1) f fd ps (spF K mg io (JR N.length io c)):=by
 refine F.okX S (fun vs H Q E h=>by obtain⟨Lk,ds,fps,hl,_⟩:=h;rw[hl,hio]) fun cdv A outer s H vs Q E hr h=>?_
 exact JdI rfl rfl S hio hv (hb cdv A outer s H E hr) h
end VS
namespace VS
open PySem L2 SeqAt
inductive AV where
 | ro (d:D)
 | ow (d:D) (wb:Option Nat)
def AV.d:AV→D
 | .ro d=>d.lend
 | .ow d _=>d
def AV.io:AV→Bool
 | .ro _=>false
 | .ow _ _=>true
def wbOk (σ:St) (Ms:List Nat) (v:V):Option Nat→Prop
 | none=>True
 | some i=>σ[i]?=some (some v)∧i∈Ms
def AOk (C:Ctx) (H:Hp) (σ:St) (Ms Rs:List Nat) (fs:FPs) (ownr:List Addr):List AV→List V→FPs→Prop
 | [],vs,fps=>vs=[]∧fps=[]
 | .ro d::as,vs,fps=>∃v vs' fp fps',vs=v::vs'∧fps=[]::fps'∧Rep C H d v fp∧In Rs ownr fs fp∧AOk C H σ Ms Rs fs ownr as vs' fps'
 | .ow d wb::as,vs,fps=>∃v vs' fp fps',vs=v::vs'∧fps=fp::fps'∧Rep C H d v fp∧wbOk σ Ms v wb∧AOk C H σ Ms Rs fs ownr as vs' fps'
def JcO (W:WX) (C:Ctx) (M Rs:List Nat) (tf:List Addr) (fs:FPs) (env:Env) (σ:St) (H:Hp) (Q:List V→Hp→Prop):R (List AV)→Prop
 | .ok avs env'=>∀vs fs' H' fps ownr,Good C fs' env' σ H' (fps.flatten++(ownr++tf))→Step M tf fs env H fs' env' H'→AOk C H' σ M Rs fs' ownr avs vs fps→Q vs H'
 | .ex x env'=>∀cv dd fs' H',Good C fs' env' σ H' tf→Step M tf fs env H fs' env' H'→ExIs C x cv dd H'→W cv dd σ H'
 | .err=>False
structure SR (X:Cx) (W:WX) (M Rs:List Nat) (es:List Expr) (c:Env→R (List AV)):Prop where
 go:∃t,PA X es t∧∀C fs env σ H tf Q,C.At X→Good C fs env σ H tf→JcO W C M Rs tf fs env σ H Q (c env)→t σ H Q
section
variable {X:Cx} {W:WX} {M M1 M2 M3 V1 V2 V3 Rs R1 R2 R3:List Nat} {e a b c tg:Expr} {es:List Expr} {ca cb cc:CE} {pos p:Pos} {cr:Env→R (List AV)}
variable {pins:List (Addr × Obj)} {σ:St} {H H1 H2:Hp} {s:Shared} {C C':Ctx} {fs fs1 fs2:FPs} {env env1 env2:Env} {tf tf' own:List Addr}
theorem Good.perm (G:Good C fs env σ H tf) (h:tf'.Perm tf):Good C fs env σ H tf':=by
 have p:=h.append_left fs.flatten
 exact⟨G.le,G.lf,G.rep,p.nodup_iff.mpr G.nd,fun a ha=>G.own a (p.mem_iff.mp ha),fun a ha=>G.trk a (p.mem_iff.mp ha),G.fr,G.lk⟩
theorem wbOk.mono {v} {M1 M2:List Nat} (h:∀i∈M1,i∈M2):∀{wb},wbOk σ M1 v wb→wbOk σ M2 v wb
 | none,_=>trivial
 | some i,⟨a,b⟩=>⟨a,h i b⟩
theorem AOk.mono {ownr ownr'} (h:∀i∈M1,i∈M2) (hr:∀i∈R1,i∈R2) (ho:∀a∈ownr,a∈ownr'):∀{avs vs fps},AOk C H σ M1 R1 fs ownr avs vs fps→AOk C H σ M2 R2 fs ownr' avs vs fps
 | [],vs,fps,x=>x
 | .ro d::as,vs,fps,⟨v,vs',fp,fps',e1,e2,r,i,x⟩=>⟨v,vs',fp,fps',e1,e2,r,i.mono hr ho,AOk.mono h hr ho x⟩
 | .ow d wb::as,vs,fps,⟨v,vs',fp,fps',e1,e2,r,i,x⟩=>⟨v,vs',fp,fps',e1,e2,r,i.mono h,AOk.mono h hr ho x⟩
def aNil:Env→R (List AV):=fun env=>.ok [] env
theorem sr_nil:SR X W [] [] [] aNil:=by
 refine⟨tNil,pa_nil,fun C fs env σ H tf Q hC G po=>?_⟩
 exact po [] fs H [] [] (by simpa using G) .refl ⟨rfl,rfl⟩
def aRo (ca:CE) (cr:Env→R (List AV)):Env→R (List AV):=fun env=>(ca env).bind fun d env=>(cr env).bind fun as env=>.ok (.ro d::as) env
def aOw (ca:CE) (wb:Option Nat) (cr:Env→R (List AV)):Env→R (List AV):=fun env=>(ca env).bind fun d env=>(cr env).bind fun as env=>.ok (.ow d wb::as) env
theorem sr_ro (ha:SB X W M1 R1 a ca) (hr:SR X W M2 R2 es cr) (hd:djB R1 M2=true:=by decide) (hs:starEach (a::es) X.env=(false,eval a X.env)::starEach es X.env:=by rfl):SR X W (M1++M2) (R1++R2) (a::es) (aRo ca cr):=by
 obtain⟨t,p,q⟩:=ha.go
 obtain⟨t2,p2,q2⟩:=hr.go
 refine⟨tCons t t2,pa_cons p p2 hs,fun C fs env σ H tf Q hC G po=>?_⟩
 refine q C fs env σ H tf _ hC G ?_
 unfold aRo at po
 cases e1:ca env with
 | err=>rw[e1]at po;exact po
 | ex x env'=>rw[e1]at po;exact fun cv dd fs' H' G' s=>po cv dd fs' H' G' (s.weak YM fun _ z=>z)
 | ok d env1 =>
  rw[e1]at po
  intro v fs1 H1 fp1 own1 G1 s1 r1 i1
  refine q2 C fs1 env1 σ H1 (own1++tf) _ hC G1 ?_
  have po':JcO W C (M1++M2) (R1++R2) tf fs env σ H Q ((cr env1).bind fun as env=>.ok (.ro d::as) env):=po
  cases e2:cr env1 with
  | err=>rw[e2]at po';exact po'
  | ex x env'=>rw[e2]at po';exact fun cv dd fs' H' G' s=>po' cv dd fs' H' G'.drop (s1.trans (s.weak (fun _ z=>z) fun x hx=>List.mem_append_right _ hx))
  | ok as env2 =>
   rw[e2]at po'
   intro vs fs2 H2 fps ownr G2 s2 r2
   have po2:∀vs fs' H' fps ownr,Good C fs' env2 σ H' (fps.flatten++(ownr++tf))→Step (M1++M2) tf fs env H fs' env2 H'→AOk C H' σ (M1++M2) (R1++R2) fs' ownr (.ro d::as) vs fps→Q vs H':=po'
   refine po2 (v::vs) fs2 H2 ([]::fps) (ownr++own1) (by simpa using G2) (s1.trans (s2.weak (fun _ z=>z) fun x hx=>List.mem_append_right _ hx)) ?_
   exact⟨v,vs,fp1,fps,rfl,rfl,r1.keep (i1.keep s2 (US hd)) s2.m,(i1.step (own2:=ownr) s2 (US hd)).mono YM fun _ z=>z,r2.mono Jbh Jbh fun _ z=>List.mem_append_left _ z⟩
theorem ow_go {t:TE} {t2:TA} {wb:Option Nat} (hs:starEach (a::es) X.env=(false,eval a X.env)::starEach es X.env) (p:PE X a t) (p2:PA X es t2)
  (q:∀C fs env σ H tf Q,C.At X→Good C fs env σ H tf→(match ca env with
   | .ok d env'=>∀v fs' H' fp,Good C fs' env' σ H' (fp++tf)→Step M1 tf fs env H fs' env' H'→Rep C H' d v fp→wbOk σ M1 v wb→Q v H'
   | .ex x env'=>∀cv dd fs' H',Good C fs' env' σ H' tf→Step M1 tf fs env H fs' env' H'→ExIs C x cv dd H'→W cv dd σ H'
   | .err=>False)→t σ H Q)
  (q2:∀C fs env σ H tf Q,C.At X→Good C fs env σ H tf→JcO W C M2 R2 tf fs env σ H Q (cr env)→t2 σ H Q):SR X W (M1++M2) R2 (a::es) (aOw ca wb cr):=by
 refine⟨tCons t t2,pa_cons p p2 hs,fun C fs env σ H tf Q hC G po=>?_⟩
 refine q C fs env σ H tf _ hC G ?_
 unfold aOw at po
 cases e1:ca env with
 | err=>rw[e1]at po;exact po
 | ex x env'=>rw[e1]at po;exact fun cv dd fs' H' G' s=>po cv dd fs' H' G' (s.weak YM fun _ z=>z)
 | ok d env1 =>
  rw[e1]at po
  intro v fs1 H1 fp1 G1 s1 r1 w1
  refine q2 C fs1 env1 σ H1 (fp1++tf) _ hC G1 ?_
  have po':JcO W C (M1++M2) R2 tf fs env σ H Q ((cr env1).bind fun as env=>.ok (.ow d wb::as) env):=po
  cases e2:cr env1 with
  | err=>rw[e2]at po';exact po'
  | ex x env'=>rw[e2]at po';exact fun cv dd fs' H' G' s=>po' cv dd fs' H' G'.drop (s1.trans (s.weak (fun _ z=>z) fun x hx=>List.mem_append_right _ hx))
  | ok as env2 =>
   rw[e2]at po'
   intro vs fs2 H2 fps ownr G2 s2 r2
   have po2:∀vs fs' H' fps ownr,Good C fs' env2 σ H' (fps.flatten++(ownr++tf))→Step (M1++M2) tf fs env H fs' env2 H'→AOk C H' σ (M1++M2) R2 fs' ownr (.ow d wb::as) vs fps→Q vs H':=po'
   refine po2 (v::vs) fs2 H2 (fp1::fps) ownr (G2.perm ?_) (s1.trans (s2.weak (fun _ z=>z) fun x hx=>List.mem_append_right _ hx)) ?_
   ·rw[List.flatten_cons]
    have:(fps.flatten++(ownr++(fp1++tf))).Perm (fp1++(fps.flatten++(ownr++tf))):=by
     exact((List.perm_append_comm_assoc _ _ _).append_left _).trans (List.perm_append_comm_assoc _ _ _)
    rw[List.append_assoc];exact this.symm
   ·exact⟨v,vs,fp1,fps,rfl,rfl,r1.keep (fun x hx=>s2.t x (List.mem_append_left _ hx)) s2.m,w1.mono YM,r2.mono Jbh (fun _ z=>z) fun _ z=>z⟩
theorem sr_io (i:Nat) {x:Str} (hr:SR X W M2 R2 es cr) (hN:X.N[i]?=some x:=by rfl) (hv:Vis X.env.scope x:=by first | exact Or.inl rfl | exact Or.inr (Or.inl rfl) | exact Or.inr (Or.inr rfl)) (hd:(x == ("__debug__" : Str))=false:=by decide)
  (hcd:(x == ("__classdict__" : Str))=false:=by decide) (hs:starEach (.Name x pos::es) X.env=(false,eval (.Name x pos) X.env)::starEach es X.env:=by rfl):SR X W ([i]++M2) R2 (.Name x pos::es) (aOw (cMv i) (some i) cr):=by
 obtain⟨t2,p2,q2⟩:=hr.go
 refine ow_go hs (pe_var hN hv hd hcd) p2 (fun C fs env σ H tf Q hC G po=>?_) q2
 cases e1:cMv i env with
 | err=>rw[e1]at po;exact po.elim
 | ex x env'=>unfold cMv at e1;split at e1<;>cases e1
 | ok d env1 =>
  rw[e1]at po
  unfold cMv at e1
  split at e1
  ·rename_i d' e2
   cases e1
   obtain⟨v,e3,r⟩:=G.rep i d e2
   refine⟨v,e3,po v (fs.set i []) H _ (G.mv e2) ⟨fun _ _=>rfl,fun j hj=>?_,fun j hj=>?_,fun _ _ _ _=>rfl,.refl H⟩ r ⟨e3,by simp⟩⟩
   ·rw[Yt fs i j [] (G.lt e2),if_neg (by simpa using hj)]
   ·rw[List.getElem?_set,if_neg (by intro z;subst z;simp at hj)]
  ·cases e1
def JZ:List AV→List D→Env→Option Env
 | [],[],env=>some env
 | .ro _::as,os,env=>JZ as os env
 | .ow _ (some i)::as,o::os,env=>JZ as os (env.set i (some o))
 | .ow _ none::as,_::os,env=>JZ as os env
 | _,_,_=>none
theorem QY {Ms Rs:List Nat} {ownr:List Addr} {fsA:FPs} {HA:Hp} (hk:C'.K=C.K) (hm:C'.mg=C.mg) (hl:C'.Lk=C.Lk):∀{avs:List AV} {vs:List V} {fpsA:FPs} {os:List D} {fps:FPs} {fs:FPs} {env env':Env},
  AOk C HA σ Ms Rs fsA ownr avs vs fpsA→OutR C' H (avs.map AV.io) os vs fps→nols os=true→JZ avs os env=some env'→Good C fs env σ H (fps.flatten++tf)→∃fs',Good C fs' env' σ H tf∧Step Ms tf fs env H fs' env' H
 | [],vs,fpsA,os,fps,fs,env,env',_,⟨h1,h2⟩,_,hp,G=>by
  subst h1 h2
  simp[JZ]at hp;subst hp
  exact⟨fs,by simpa using G,.refl⟩
 | .ro d::as,vs,fpsA,os,fps,fs,env,env',⟨v,vs',fp,fps',e1,e2,r,i,x⟩,ho,hn,hp,G=>by
  subst e1
  obtain⟨w,ws,e3,ho⟩:=ho
  cases e3
  simp only[JZ]at hp
  exact QY hk hm hl x ho hn hp G
 | .ow d none::as,vs,fpsA,os,fps,fs,env,env',⟨v,vs',fp,fps',e1,e2,r,i,x⟩,ho,hn,hp,G=>by
  subst e1
  obtain⟨o,os',w,ws,f,fps2,e3,e4,e5,ro,ho⟩:=ho
  cases e4
  subst e3 e5
  simp only[JZ]at hp
  have hn:=Bool.and_eq_true_iff.mp hn
  refine QY hk hm hl x ho hn.2 hp (G.sub ?_)
  rw[List.flatten_cons,List.append_assoc];exact List.sublist_append_right _ _
 | .ow d (some j)::as,vs,fpsA,os,fps,fs,env,env',⟨v,vs',fp,fps',e1,e2,r,i,x⟩,ho,hn,hp,G=>by
  subst e1
  obtain⟨o,os',w,ws,f,fps2,e3,e4,e5,ro,ho⟩:=ho
  cases e4
  subst e3 e5
  simp only[JZ]at hp
  have hn:=Bool.and_eq_true_iff.mp hn
  rw[List.flatten_cons,List.append_assoc]at G
  have ro':=ro.leave hk hm hl hn.1
  have G2:=G.put (i:=j) ro'
  have es:σ.set j (some v)=σ:=by
   obtain⟨h1,h2⟩:=List.getElem?_eq_some_iff.mp i.1
   conv=>rhs;rw[←List.set_getElem_self (as:=σ) (i:=j) h1]
   rw[h2]
  rw[es]at G2
  obtain⟨fs',G3,s3⟩:=QY hk hm hl x ho hn.2 hp G2
  have s2:=Step.put (i:=j) (d:=o) G
  refine⟨fs',G3,((s2.weak (M':=Ms) (tf':=tf) (fun q hq=>?_) fun x hx=>List.mem_append_right _ hx).trans s3).weak (fun q hq=>(List.mem_append.mp hq).elim id id) fun _ z=>z⟩
  simp at hq;subst hq;exact i.2
theorem good_after {A':List Addr} (G:Good C fs env σ H1 (A'++tf)) (h0:C'.H0=H1) (hA:C'.A=A') (hl:C'.Lk=C.Lk) (f:Fr C' H2) (m:Mono H1 H2):Good C fs env σ H2 tf∧(∀a∈fs.flatten++tf,H2 a=H1 a):=by
 have keep:∀a∈fs.flatten++tf,H2 a=H1 a:=fun a ha=>by
  have ha':a∈fs.flatten++(A'++tf):=by
   rcases List.mem_append.mp ha with z | z
   ·exact List.mem_append_left _ z
   ·exact List.mem_append_right _ (List.mem_append_right _ z)
  obtain⟨o,e,mu⟩:=G.trk a ha'
  have nA:a∉A':=fun hm=>by
   have p:(fs.flatten++(A'++tf)).Perm (A'++(fs.flatten++tf)):=by
    rw[←List.append_assoc,←List.append_assoc];exact List.perm_append_comm.append_right _
   exact(List.nodup_append.mp (p.nodup_iff.mp G.nd)).2.2 a hm a ha rfl
  rcases f a o (by rw[h0];exact e) (by rw[hA];exact nA) with q | ⟨q1,_,ob,q⟩
  ·rw[q,e]
  ·obtain⟨ob2,u,z⟩:=G.lk a (by rw[←hl];exact q1)
   rw[e]at z;cases z;exact mu.elim
 refine⟨⟨G.le,G.lf,fun i d e=>?_,?_,fun a ha=>G.own a ?_,fun a ha=>?_,fun a o e na=>?_,fun a ha=>?_⟩,keep⟩
 ·obtain⟨v,e1,r⟩:=G.rep i d e
  exact⟨v,e1,r.keep (fun a ha=>keep a (List.mem_append_left _ (UD ha))) m⟩
 ·exact G.nd.sublist ((List.Sublist.refl _).append (List.sublist_append_right _ _))
 ·rcases List.mem_append.mp ha with z | z
  ·exact List.mem_append_left _ z
  ·exact List.mem_append_right _ (List.mem_append_right _ z)
 ·rw[keep a ha]
  refine G.trk a ?_
  rcases List.mem_append.mp ha with z | z
  ·exact List.mem_append_left _ z
  ·exact List.mem_append_right _ (List.mem_append_right _ z)
 ·have nA:a∉A':=fun hm=>by
   rcases G.own a (List.mem_append_right _ (List.mem_append_left _ hm)) with q | q
   ·exact na q
   ·rw[e]at q;cases q
  rcases G.fr a o e na with q | ⟨q1,q2,ob,q⟩
  ·rcases f a o (by rw[h0];exact q) (by rw[hA];exact nA) with z | ⟨z1,z2,z3⟩
   ·exact .inl z
   ·exact .inr ⟨by rw[←hl];exact z1,z2,z3⟩
  ·exact .inr ⟨q1,q2,ob,m.z _ _ _ q⟩
 ·obtain⟨ob,u,e⟩:=G.lk a ha
  exact⟨ob,u,m.z _ _ _ e⟩
theorem good_come {A' fpn:List Addr} (G1:Good C fs env σ H1 (A'++tf)) (G:Good C fs env σ H2 tf) (nd:fpn.Nodup) (hw:∀a∈fpn,a∈A'∨H1 a=none) (tk:∀a∈fpn,∃o,H2 a=some o∧Mutb o):Good C fs env σ H2 (fpn++tf):=by
 have p:(fs.flatten++(fpn++tf)).Perm (fpn++(fs.flatten++tf)):=by
  rw[←List.append_assoc,←List.append_assoc];exact List.perm_append_comm.append_right _
 have p1:(fs.flatten++(A'++tf)).Perm (A'++(fs.flatten++tf)):=by
  rw[←List.append_assoc,←List.append_assoc];exact List.perm_append_comm.append_right _
 refine⟨G.le,G.lf,G.rep,p.nodup_iff.mpr (List.nodup_append.mpr ⟨nd,G.nd,fun a ha b hb e=>?_⟩),fun a ha=>?_,fun a ha=>?_,G.fr,G.lk⟩
 ·subst e
  rcases hw a ha with z | z
  ·exact(List.nodup_append.mp (p1.nodup_iff.mp G1.nd)).2.2 a z a hb rfl
  ·have hb':a∈fs.flatten++(A'++tf):=p1.mem_iff.mpr (List.mem_append_right _ hb)
   obtain⟨o,q,_⟩:=G1.trk a hb'
   rw[z]at q;cases q
 ·rcases List.mem_append.mp (p.mem_iff.mp ha) with z | z
  ·rcases hw a z with w | w
   ·exact G1.own a (p1.mem_iff.mpr (List.mem_append_left _ w))
   ·exact G1.fr.fresh w
  ·exact G.own a z
 ·rcases List.mem_append.mp (p.mem_iff.mp ha) with z | z
  ·exact tk a z
  ·exact G.trk a z
theorem AOk.len {Ms Rs ownr}:∀{avs vs fps},AOk C H σ Ms Rs fs ownr avs vs fps→vs.length=(avs.map AV.io).length
 | [],vs,fps,⟨h,_⟩=>by subst h;rfl
 | .ro d::as,vs,fps,⟨v,vs',fp,fps',e1,e2,r,i,x⟩=>by subst e1;simp[AOk.len x]
 | .ow d wb::as,vs,fps,⟨v,vs',fp,fps',e1,e2,r,i,x⟩=>by subst e1;simp[AOk.len x]
theorem AOk.argR {Ms Rs ownr} (E:Enter C C' H) (hd:∀b,(b∈ownr∨∃r∈Rs,b∈fs.getD r [])→b∉C'.A):∀{avs vs fps},AOk C H σ Ms Rs fs ownr avs vs fps→ArgR C' H (avs.map AV.io) (avs.map AV.d) vs fps
 | [],vs,fps,⟨h1,h2⟩=>⟨rfl,h1,h2⟩
 | .ro d::as,vs,fps,⟨v,vs',fp,fps',e1,e2,r,i,x⟩=>⟨d.lend,_,v,vs',[],fps',rfl,e1,e2,r.lend E (fun b hb=>hd b (i b hb)),.inr rfl,AOk.argR E hd x⟩
 | .ow d wb::as,vs,fps,⟨v,vs',fp,fps',e1,e2,r,i,x⟩=>⟨d,_,v,vs',fp,fps',rfl,e1,e2,r.enter E,.inl rfl,AOk.argR E hd x⟩
theorem OutR.trk:∀{io os vs fps},OutR C H io os vs fps→∀a∈fps.flatten,∃o,H a=some o∧Mutb o
 | [],os,vs,fps,⟨_,h⟩=>by subst h;intro a ha;simp at ha
 | true::bs,os,vs,fps,⟨o,os',v,vs',fp,fps',e1,e2,e3,r,x⟩=>by
  subst e3
  intro a ha
  rw[List.flatten_cons]at ha
  exact(List.mem_append.mp ha).elim (r.trk a) (OutR.trk x a)
 | false::bs,os,vs,fps,⟨v,vs',e,x⟩=>OutR.trk x
def ZM (avs:List AV) (env:Env):FR→R D
 | .ok r os=>if r.nol && nols os then (match JZ avs os env with
  | some env'=>.ok r env'
  | none=>.err) else .err
 | .ex x os=>if nols os then (match JZ avs os env with
  | some env'=>.ex x env'
  | none=>.err) else .err
 | .err=>.err
def Jo (φ:List D→FR) (cr:Env→R (List AV)):CE:=fun env=>(cr env).bind fun avs env=>ZM avs env (φ (avs.map AV.d))
theorem ExIs.leave {x:Exn} {cv dd} (hk:C'.K=C.K) (hm:C'.mg=C.mg) (hl:C'.Lk=C.Lk) (h:ExIs C' x cv dd H):ExIs C x cv dd H:=by
 obtain⟨Ca,h1,h2,h3⟩:=h
 refine⟨Ca,by rw[←hm];exact h1,h2,?_⟩
 cases q:x.pay with
 | none=>rw[q]at h3;exact h3
 | some fd =>
  rw[q]at h3
  obtain⟨da,v,e1,e2,e3,r⟩:=h3
  exact⟨da,v,e1,e2,e3,r.leave hk hm hl e3⟩
theorem JdN {io:List Bool} {φ:List D→FR} {t:TA} {E:L2.St→XK}
  (hE:∀σ cls d H,W cls d σ H→E σ cls d H) (hio:∀env avs env',cr env=.ok avs env'→avs.map AV.io=io)
  (q:∀C fs env σ H tf Q,C.At X→Good C fs env σ H tf→JcO W C M Rs tf fs env σ H Q (cr env)→t σ H Q) (hd:djB Rs []=true) :
  ∀C fs env σ H tf Q,C.At X→Good C fs env σ H tf→Yw W C M tf fs env σ H Q (Jo φ cr env)→t σ H fun vs H1=>spF X.K X.mg io φ vs H1 Q (E σ):=by
 intro C fs env σ H tf Q hC G po
 refine q C fs env σ H tf _ hC G ?_
 unfold Jo at po
 cases e1:cr env with
 | err=>rw[e1]at po;exact po
 | ex x env'=>rw[e1]at po;exact po
 | ok avs env1 =>
  rw[e1]at po
  intro vs fs1 H1 fps ownr G1 s1 ao
  have hio':=hio env avs env1 e1
  have po1:Yw W C M tf fs env σ H Q (ZM avs env1 (φ (avs.map AV.d))):=po
  let C':Ctx:=⟨X.K,X.mg,H1,fps.flatten,C.Lk⟩
  have hk:C'.K=C.K:=hC.1.symm
  have hm:C'.mg=C.mg:=hC.2.symm
  have E1:Enter C C' H1:=⟨hk,hm,rfl,rfl,G1.fr,fun x hx=>⟨G1.own x (List.mem_append_right _ (List.mem_append_left _ hx)),G1.trk x (List.mem_append_right _ (List.mem_append_left _ hx))⟩⟩
  have dis:∀b,(b∈ownr∨∃r∈Rs,b∈fs1.getD r [])→b∉C'.A:=fun b hb hm'=>by
   have nd:=(List.nodup_append.mp G1.nd).2.1
   rcases hb with z | ⟨r,_,z⟩
   ·exact(List.nodup_append.mp nd).2.2 b hm' b (List.mem_append_left _ z) rfl
   ·exact G1.apartT z (List.mem_append_left _ hm')
  have ar:=ao.argR E1 dis
  rw[hio']at ar
  refine⟨C.Lk,avs.map AV.d,fps,by rw[ao.len,hio'],ar,(List.nodup_append.mp (List.nodup_append.mp G1.nd).2.1).1,G1.lk,?_⟩
  have fin:∀{H2:Hp} {os:List D} {fpr:List Addr} {fpso:FPs} {env2:Env},Fr C' H2→Mono H1 H2→OutR C' H2 io os vs fpso→nols os=true→JZ avs os env1=some env2→(fpr++fpso.flatten).Nodup→(∀a∈fpr++fpso.flatten,a∈C'.A∨H1 a=none) →
    (∀a∈fpr,∃o,H2 a=some o∧Mutb o)→∃fs2,Good C fs2 env2 σ H2 (fpr++tf)∧Step M tf fs env H fs2 env2 H2:=by
   intro H2 os fpr fpso env2 f m orr hn hp nd hw tk
   obtain⟨G2,keep⟩:=good_after (C':=C') G1 rfl rfl rfl f m
   have G2':Good C fs1 env1 σ H2 tf:=G2.drop
   have G3:Good C fs1 env1 σ H2 ((fpr++fpso.flatten)++(ownr++tf)):=good_come (A':=fps.flatten) G1 G2 nd hw fun a ha=>(List.mem_append.mp ha).elim (tk a) (orr.trk a)
   have G4:Good C fs1 env1 σ H2 (fpso.flatten++(fpr++tf)):=by
    refine (G3.sub (tf':=(fpr++fpso.flatten)++tf) ((List.Sublist.refl _).append (List.sublist_append_right _ _))).perm ?_
    rw[←List.append_assoc];exact List.perm_append_comm.append_right _
   rw[←hio']at orr
   obtain⟨fs2,G5,s5⟩:=QY (C':=C') hk hm rfl ao orr hn hp G4
   refine⟨fs2,G5,?_⟩
   have s12:Step M tf fs1 env1 H1 fs1 env1 H2:=⟨fun a ha=>keep a (List.mem_append_right _ (List.mem_append_right _ ha)),fun _ _=>rfl,fun _ _=>rfl,fun i _ a ha=>keep a (List.mem_append_left _ (UD ha)),m⟩
   exact((s1.trans s12).trans (s5.weak (fun _ z=>z) fun x hx=>List.mem_append_right _ hx)).weak (fun i hi=>by
    rcases List.mem_append.mp hi with z | z
    ·exact(List.mem_append.mp z).elim id id
    ·exact z) fun _ z=>z
  cases e2:φ (avs.map AV.d) with
  | err=>rw[e2]at po1;exact po1.elim
  | ok r os =>
   rw[e2]at po1
   simp only[ZM]at po1
   split at po1
   ·rename_i hn
    have hn:=Bool.and_eq_true_iff.mp hn
    cases e3:JZ avs os env1 with
    | none=>rw[e3]at po1;exact po1.elim
    | some env2 =>
     rw[e3]at po1
     intro v H2 fpr fpso f m rr orr nd hw
     obtain⟨fs2,G2,s2⟩:=fin f m orr hn.2 e3 nd hw rr.trk
     exact po1 v fs2 H2 fpr G2 s2 (rr.leave hk hm rfl hn.1)
   ·exact po1.elim
  | ex x os =>
   rw[e2]at po1
   simp only[ZM]at po1
   split at po1
   ·rename_i hn
    cases e3:JZ avs os env1 with
    | none=>rw[e3]at po1;exact po1.elim
    | some env2 =>
     rw[e3]at po1
     intro cv dd H2 fpso f m hx orr nd hw
     obtain⟨fs2,G2,s2⟩:=fin (fpr:=[]) f m orr hn e3 (by rw[List.nil_append];exact nd) (by rw[List.nil_append];exact hw) fun _ z=>nomatch z
     exact hE σ cv dd H2 (po1 cv dd fs2 H2 (by simpa using G2) s2 (hx.leave hk hm rfl))
   ·exact po1.elim
end
end VS
namespace VS
open PySem L2 SeqAt
structure SRI (X:Cx) (W:WX) (M Rs:List Nat) (io:List Bool) (es:List Expr) (c:Env→R (List AV)):Prop where
 sr:SR X W M Rs es c
 shape:∀env avs env',c env=.ok avs env'→avs.map AV.io=io
theorem R.bind_ok {α β:Type} {r:R α} {f:α→Env→R β} {b:β} {env:Env} (h:r.bind f=.ok b env):∃a env1,r=.ok a env1∧f a env1=.ok b env:=by
 cases r with
 | ok a e=>exact⟨a,e,rfl,h⟩
 | ex x e=>cases h
 | err=>cases h
section
variable {X:Cx} {W:WX} {M M1 M2 M3 V1 V2 V3 Rs R1 R2 R3:List Nat} {e a b c tg:Expr} {es:List Expr} {ca cb cc:CE} {pos p:Pos} {cr:Env→R (List AV)} {io:List Bool}
theorem Jl:SRI X W [] [] [] [] aNil:=⟨sr_nil,fun env avs env' h=>by cases h;rfl⟩
theorem Ji (ha:SB X W M1 R1 a ca) (hr:SRI X W M2 R2 io es cr) (hd:djB R1 M2=true:=by decide) (hs:starEach (a::es) X.env=(false,eval a X.env)::starEach es X.env:=by rfl):SRI X W (M1++M2) (R1++R2) (false::io) (a::es) (aRo ca cr) :=
 ⟨sr_ro ha hr.sr hd hs,fun env avs env' h=>by
  obtain⟨d,e1,h1,h2⟩:=R.bind_ok h
  obtain⟨as,e2,h3,h4⟩:=R.bind_ok h2
  cases h4
  simp[AV.io,hr.shape _ _ _ h3]⟩
theorem ow_shape {wb} (hr:SRI X W M2 R2 io es cr):∀env avs env',aOw ca wb cr env=.ok avs env'→avs.map AV.io=true::io:=fun env avs env' h=>by
 obtain⟨d,e1,h1,h2⟩:=R.bind_ok h
 obtain⟨as,e2,h3,h4⟩:=R.bind_ok h2
 cases h4
 simp[AV.io,hr.shape _ _ _ h3]
theorem sri_io (i:Nat) {x:Str} (hr:SRI X W M2 R2 io es cr) (hN:X.N[i]?=some x:=by rfl) (hv:Vis X.env.scope x:=by first | exact Or.inl rfl | exact Or.inr (Or.inl rfl) | exact Or.inr (Or.inr rfl)) (hd:(x == ("__debug__" : Str))=false:=by decide)
  (hcd:(x == ("__classdict__" : Str))=false:=by decide) (hs:starEach (.Name x pos::es) X.env=(false,eval (.Name x pos) X.env)::starEach es X.env:=by rfl):SRI X W ([i]++M2) R2 (true::io) (.Name x pos::es) (aOw (cMv i) (some i) cr) :=
 ⟨sr_io i hr.sr hN hv hd hcd hs,ow_shape hr⟩
def Fd (P:Program) (w:World) (K:PySem.W.Frag) (mg:Str→Option Value) (base:Heap) (k:Nat) (x:Str) (ps:List Str) (io:List Bool) (φ:List D→FR):Prop :=
 ∃(f:Addr) (fd:FuncData),FnOk P w K mg base (L2.CX P w) k f fd ps (spF K mg io φ)∧mg x=some (.ref f)∧PySem.W.keepIn K (.ref f)=true∧Binds K fd ps []
theorem Jm {k:Nat} {x:Str} {ps:List Str} {φ:List D→FR} {pf:Pos} (F:Fd X.prog X.w X.K X.mg X.base k x ps io φ) (hr:Room k X.A) (tk:Takes X W) (ha:SRI X W M Rs io (e::es) cr) (hg:Gl X x:=by rfl)
  (hdb:(x == ("__debug__" : Str))=false:=by decide) (he:starEach (e::es) X.env=(false,eval e X.env)::starEach es X.env:=by rfl) (hpl:(backTo pos (starEach es X.env)).any (·.1)=false:=by rfl) :
  SO X W M (.Call (.Name x pf) (e::es) [] pos) (Jo φ cr):=by
 obtain⟨f,fd,G,hm,hk,hb⟩:=F
 obtain⟨t,p,q⟩:=ha.sr.go
 refine⟨tCallS (spF X.K X.mg io φ) (WE W) t,pe_callS G hr hg hm hk hb (fun σ=>passAt tk σ) p hdb he hpl,?_⟩
 exact JdN (E:=WE W) (fun _ _ _ _ h=>h) ha.shape q (by unfold djB;simp)
end
def JcV (K:PySem.W.Frag):Sp:=fun vs H Q _=>∃(a:Addr) (ns:List Int),vs=[.ref a]∧SqL K H a (ns.map V.int)∧ns.length≤63∧(∀z∈ns,Builtin.Int.intBits z≤1048576)∧∀H',Q (.bl true) H'
theorem JbS {C:Ctx} {H:Hp}:∀ns:List Int,Reps C H (ns.map D.int) (ns.map V.int) []
 | []=>⟨rfl,rfl⟩
 | n::ns=>⟨.int n,ns.map V.int,[],[],rfl,⟨rfl,rfl⟩,JbS ns,rfl⟩
theorem Us {P:Program} {w:World} {K:PySem.W.Frag} {mg:Str→Option Value} {base:Heap} {k:Nat} {x:Str} {st:Stmt} {f:Addr} {fd:FuncData} {ps:List Str} {io:List Bool} {φ:List D→FR} (F:Fun K x x st f fd) (hm:mg x=some (.ref f)) (hb:Binds K fd ps [])
  (h:FnOk P w K mg base (L2.CX P w) k f fd ps (spF K mg io φ)):Fd P w K mg base k x ps io φ:=⟨f,fd,h,hm,F.kp,hb⟩
theorem Fd.mono {P:Program} {w:World} {K:PySem.W.Frag} {mg:Str→Option Value} {base:Heap} {j k:Nat} {x:Str} {ps:List Str} {io:List Bool} {φ:List D→FR} (F:Fd P w K mg base j x ps io φ) (h:j≤k):Fd P w K mg base k x ps io φ :=
 let ⟨f,fd,G,a,b,c⟩:=F
 ⟨f,fd,G.mono h,a,b,c⟩
end VS
namespace VS
open PySem L2 SeqAt
structure Foc (C:Ctx) (H:Hp) (d:D) (v:V) (g1:List Addr) (d':D) (v':V) (fp' g2:List Addr) (F:D→D):Prop where
 here:Rep C H d' v' fp'
 back:∀H' d'' fp'',Mono H H'→(∀a∈g1++g2,H' a=H a)→Rep C H' d'' v' fp''→Rep C H' (F d'') v (g1++fp''++g2)
def Je5 (W:WX) (C:Ctx) (i:Nat) (M:List Nat) (tf:List Addr) (fs:FPs) (env:Env) (σ:St) (H:Hp) (Q:VK):R (D × (D→D))→Prop
 | .ok dF env'=>∀v' fs' H' d v g1 fp' g2,Good C fs' env' σ H' tf→Step M tf fs env H fs' env' H'→env'[i]?=some (some d)→σ[i]?=some (some v)→fs'.getD i []=g1++fp'++g2→Foc C H' d v g1 dF.1 v' fp' g2 dF.2→Q v' H'
 | .ex x env'=>∀cv dd fs' H',Good C fs' env' σ H' tf→Step M tf fs env H fs' env' H'→ExIs C x cv dd H'→W cv dd σ H'
 | .err=>False
abbrev CL:=Env→R (D × (D→D))
structure SL (X:Cx) (W:WX) (i:Nat) (M:List Nat) (e:Expr) (c:CL):Prop where
 go:∃t,PE X e t∧∀C fs env σ H tf Q,C.At X→Good C fs env σ H tf→Je5 W C i M tf fs env σ H Q (c env)→t σ H Q
section
variable {X:Cx} {W:WX} {M M1 M2 M3 V1 V2 V3 Rs R1 R2 R3:List Nat} {e a b c tg o:Expr} {es:List Expr} {ca cb cc:CE} {cs:CA} {pos p:Pos} {cl:CL} {i:Nat}
variable {pins:List (Addr × Obj)} {σ:St} {H H1 H2 H':Hp} {s:Shared} {C C':Ctx} {fs fs1 fs2:FPs} {env env1 env2:Env} {tf tf' own:List Addr}
theorem foc_self {d v fp} (r:Rep C H d v fp):Foc C H d v [] d v fp [] id:=⟨r,fun H' d'' fp'' _ _ r'=>by simpa using r'⟩
theorem Foc.keep {d v g1 d' v' fp' g2 F} (f:Foc C H d v g1 d' v' fp' g2 F) (m:Mono H H') (k:∀a∈g1++fp'++g2,H' a=H a):Foc C H' d v g1 d' v' fp' g2 F :=
 ⟨f.here.keep (fun a ha=>k a (by simp[ha])) m,fun H2 d'' fp'' m2 k2 r=>f.back H2 d'' fp'' (m.trans m2) (fun a ha=>(k2 a ha).trans (k a (by
  rcases List.mem_append.mp ha with z | z<;>simp[z]))) r⟩
theorem Foc.comp {d v g1 d1 v1 fp1 g2 F h1 d2 v2 fp2 h2 G} (f:Foc C H d v g1 d1 v1 fp1 g2 F) (g:Foc C H d1 v1 h1 d2 v2 fp2 h2 G) (e:fp1=h1++fp2++h2):Foc C H d v (g1++h1) d2 v2 fp2 (h2++g2) (F∘G):=by
 refine⟨g.here,fun H' d'' fp'' m k r=>?_⟩
 have r1:=g.back H' d'' fp'' m (fun a ha=>k a (by rcases List.mem_append.mp ha with z | z<;>simp[z])) r
 have r2:=f.back H' (G d'') _ m (fun a ha=>k a (by rcases List.mem_append.mp ha with z | z<;>simp[z])) r1
 simpa [List.append_assoc] using r2
theorem QS:∀{ds:List D} {vs:List V} {fp:List Addr} {j:Nat} {x:D},Reps C H ds vs fp→ds[j]?=some x→∃w g1 f g2,vs[j]?=some w∧Rep C H x w f∧fp=g1++f++g2 ∧
  ∀H' y w' f',Mono H H'→(∀a∈g1++g2,H' a=H a)→Rep C H' y w' f'→Reps C H' (ds.set j y) (vs.set j w') (g1++f'++g2)
 | [],vs,fp,j,x,_,h=>by simp at h
 | d::ds,vs,fp,0,x,⟨v,vs',f1,f2,e,r,rs,e2⟩,h=>by
  simp at h;subst h;subst e
  refine⟨v,[],f1,f2,by simp,r,by simpa using e2,fun H' y w' f' m k r'=>?_⟩
  exact⟨w',vs',f',f2,rfl,r',rs.keep (fun a ha=>k a (by simp[ha])) m,by simp⟩
 | d::ds,vs,fp,j+1,x,⟨v,vs',f1,f2,e,r,rs,e2⟩,h=>by
  subst e
  obtain⟨w,g1,f,g2,h1,h2,h3,h4⟩:=QS (j:=j) rs (by simpa using h)
  refine⟨w,f1++g1,f,g2,by simpa using h1,h2,by rw[e2,h3];simp[List.append_assoc],fun H' y w' f' m k r'=>?_⟩
  exact⟨v,_,f1,g1++f'++g2,rfl,r.keep (fun a ha=>k a (by simp[ha])) m,h4 H' y w' f' m (fun a ha=>k a (by rcases List.mem_append.mp ha with z | z<;>simp[z])) r',by simp[List.append_assoc]⟩
def idxK:List Key→Key→Option Nat
 | [],_=>none
 | k0::ks,k=>if k0=k then some 0 else (idxK ks k).map (·+1)
theorem JaU:∀{kvs:List (Key × V)} {k:Key} {j:Nat},idxK (kvs.map (·.1)) k=some j→valV kvs k=(kvs[j]?).map (·.2)∧j < kvs.length
 | [],k,j,h=>by simp[idxK]at h
 | kv::kvs,k,j,h=>by
  simp only[List.map_cons,idxK]at h
  by_cases e:kv.1=k
  ·rw[if_pos e]at h;cases h
   exact⟨by rw[valV_pos e];simp,by simp⟩
  ·rw[if_neg e]at h
   obtain⟨j',h',rfl⟩:=Option.map_eq_some_iff.mp h
   obtain⟨h1,h2⟩:=JaU h'
   exact⟨by rw[valV_neg e,h1];simp,by simp;omega⟩
theorem JbH:∀{kvs:List (Key × V)} {k:Key},idxK (kvs.map (·.1)) k=none→valV kvs k=none
 | [],k,h=>rfl
 | kv::kvs,k,h=>by
  simp only[List.map_cons,idxK]at h
  by_cases e:kv.1=k
  ·rw[if_pos e]at h;cases h
  ·rw[if_neg e]at h
   rw[valV_neg e]
   exact JbH (by simpa using h)
theorem Jay:∀{kvs:List (Key × V)} {k:Key} {j:Nat} {v:V},(kvs.map (·.1)).Nodup→idxK (kvs.map (·.1)) k=some j→putK kvs k v=kvs.set j (k,v)
 | [],k,j,v,_,h=>by simp[idxK]at h
 | kv::kvs,k,j,v,nd,h=>by
  have h0:=h
  simp only[List.map_cons,idxK]at h
  simp only[List.map_cons,List.nodup_cons]at nd
  by_cases e:kv.1=k
  ·rw[if_pos e]at h;cases h
   unfold putK
   have:((kv::kvs).any fun kv=>decide (kv.1=k))=true:=by simp[e]
   rw[if_pos this]
   simp only[List.map_cons,List.set_cons_zero]
   rw[if_pos e,e]
   congr 1
   have key:∀x∈kvs,(if x.1=k then (x.1,v) else x)=x:=fun x hx=>by
    have:¬ x.1=k:=fun z=>nd.1 (List.mem_map.mpr ⟨x,hx,z.trans e.symm⟩)
    rw[if_neg this]
   rw[List.map_congr_left key];simp
  ·rw[if_neg e]at h
   obtain⟨j',h',rfl⟩:=Option.map_eq_some_iff.mp h
   have ih:=Jay (v:=v) nd.2 h'
   have hv:=JaU h'
   unfold putK at ih ⊢
   have a1:(kvs.any fun kv=>decide (kv.1=k))=true:=by
    rw[valV_any,hv.1,List.getElem?_eq_getElem hv.2];rfl
   have a2:((kv::kvs).any fun kv=>decide (kv.1=k))=true:=by simp[a1]
   rw[if_pos a1]at ih
   rw[if_pos a2]
   simp only[List.map_cons,List.set_cons_succ]
   rw[if_neg e,ih]
def lVar (i:Nat):CL:=fun env=>match env[i]? with
 | some (some d)=>.ok (d,id) env
 | _=>.err
theorem ZG (i:Nat) {x:Str} (hN:X.N[i]?=some x:=by rfl) (hv:Vis X.env.scope x:=by first | exact Or.inl rfl | exact Or.inr (Or.inl rfl) | exact Or.inr (Or.inr rfl)) (hd:(x == ("__debug__" : Str))=false:=by decide)
  (hcd:(x == ("__classdict__" : Str))=false:=by decide):SL X W i [] (.Name x pos) (lVar i):=by
 refine⟨tVar i,pe_var hN hv hd hcd,fun C fs env σ H tf Q hC G po=>?_⟩
 unfold lVar at po
 split at po
 ·rename_i d e1
  obtain⟨v,e2,r⟩:=G.rep i d e1
  exact⟨v,e2,po v fs H d v [] (fs.getD i []) [] G .refl e1 e2 (by simp) (foc_self r)⟩
 ·exact po.elim
theorem Good.mut {d v g1 d' v' fp' g2 F d'' fp'' fx} (G:Good C fs env σ H (fx++tf)) (e1:env[i]?=some (some d)) (e2:σ[i]?=some (some v)) (e3:fs.getD i []=g1++fp'++g2) (Fo:Foc C H d v g1 d' v' fp' g2 F)
  (m:Mono H H') (ch:∀a o,H a=some o→a∉fp'→H' a=some o) (r:Rep C H' d'' v' fp'') (nd:(fp''++tf').Nodup) (sub:∀a∈fp''++tf',a∈fp'∨a∈fx++tf∨H a=none) (tk:∀a∈tf',∃o,H' a=some o∧Mutb o) :
  Good C (fs.set i (g1++fp''++g2)) (env.set i (some (F d''))) σ H' tf':=by
 have hl:=G.lt e1
 have hle:i < env.length:=by rw[G.le,←G.lf];exact hl
 have p0:=UQ fs hl
 have stay:∀a,(a∈g1++g2∨a∈(fs.set i []).flatten)→a∉fp'∧a∉fx++tf∧∃o,H a=some o∧Mutb o:=by
  intro a ha
  have hm:a∈fs.flatten:=by
   rcases ha with z | z
   ·refine p0.mem_iff.mpr (List.mem_append_left _ ?_)
    rw[e3];rcases List.mem_append.mp z with z | z<;>simp[z]
   ·exact p0.mem_iff.mpr (List.mem_append_right _ z)
  refine⟨fun hx=>?_,fun hx=>(List.nodup_append.mp G.nd).2.2 a hm a hx rfl,G.trk a (List.mem_append_left _ hm)⟩
  have nd1:=p0.nodup_iff.mp (List.nodup_append.mp G.nd).1
  rw[e3]at nd1
  rcases ha with z | z
  ·have:=(List.nodup_append.mp nd1).1
   have pp:(g1++fp'++g2).Perm (fp'++(g1++g2)):=by
    rw[List.append_assoc];exact List.perm_append_comm_assoc _ _ _
   exact(List.nodup_append.mp (pp.nodup_iff.mp this)).2.2 a hx a z rfl
  ·exact(List.nodup_append.mp nd1).2.2 a (by simp[hx]) a z rfl
 have keep:∀a,(a∈g1++g2∨a∈(fs.set i []).flatten)→H' a=H a:=fun a ha=>by
  obtain⟨h1,_,o,e,_⟩:=stay a ha
  rw[e];exact ch a o e h1
 have p1:=JbD fs hl (g1++fp''++g2)
 have pt:((fs.set i (g1++fp''++g2)).flatten++tf').Perm ((g1++g2)++(fs.set i []).flatten++(fp''++tf')):=by
  refine (p1.append_right tf').trans ?_
  have a1:(g1++fp''++g2).Perm ((g1++g2)++fp''):=by
   rw[List.append_assoc,List.append_assoc];exact List.perm_append_comm.append_left g1
  refine ((a1.append_right _).append_right _).trans ?_
  simp only[List.append_assoc]
  refine List.Perm.append_left _ (List.Perm.append_left _ ?_)
  exact List.perm_append_comm_assoc _ _ _
 refine⟨by simpa using G.le,by simpa using G.lf,fun j dj ej=>?_,pt.nodup_iff.mpr (List.nodup_append.mpr ⟨?_,nd,fun a ha b hb eab=>?_⟩),fun a ha=>?_,fun a ha=>?_,?_,fun a ha=>?_⟩
 ·rw[List.getElem?_set]at ej
  by_cases hj:i=j
  ·subst hj
   simp[hle]at ej;subst ej
   refine⟨v,e2,?_⟩
   rw[Yt fs i i _ hl,if_pos rfl]
   exact Fo.back H' d'' fp'' m (fun a ha=>keep a (.inl ha)) r
  ·rw[if_neg hj]at ej
   obtain⟨w,h1,h2⟩:=G.rep j dj ej
   refine⟨w,h1,?_⟩
   rw[Yt fs i j _ hl,if_neg (Ne.symm hj)]
   refine h2.keep (fun a ha=>keep a (.inr ?_)) m
   have:a∈(fs.set i []).getD j []:=by rw[Yt fs i j _ hl,if_neg (Ne.symm hj)];exact ha
   exact UD this
 ·have nd1:=p0.nodup_iff.mp (List.nodup_append.mp G.nd).1
  rw[e3]at nd1
  refine nd1.sublist ?_
  refine List.Sublist.append ?_ (List.Sublist.refl _)
  exact List.Sublist.append (List.sublist_append_left _ _) (List.Sublist.refl _)
 ·subst eab
  obtain⟨h1,h2,o,e,_⟩:=stay a (List.mem_append.mp ha)
  rcases sub a hb with z | z | z
  ·exact h1 z
  ·exact h2 z
  ·rw[z]at e;cases e
 ·have:=pt.mem_iff.mp ha
  rcases List.mem_append.mp this with z | z
  ·rcases List.mem_append.mp z with z | z
   ·refine G.own a (List.mem_append_left _ (p0.mem_iff.mpr (List.mem_append_left _ ?_)))
    rw[e3];rcases List.mem_append.mp z with z | z<;>simp[z]
   ·exact G.own a (List.mem_append_left _ (p0.mem_iff.mpr (List.mem_append_right _ z)))
  ·rcases sub a z with w | w | w
   ·refine G.own a (List.mem_append_left _ (p0.mem_iff.mpr (List.mem_append_left _ ?_)))
    rw[e3];simp[w]
   ·exact G.own a (List.mem_append_right _ w)
   ·exact G.fr.fresh w
 ·have:=pt.mem_iff.mp ha
  rcases List.mem_append.mp this with z | z
  ·obtain⟨_,_,o,e,mu⟩:=stay a (List.mem_append.mp z)
   exact⟨o,by rw[keep a (List.mem_append.mp z)];exact e,mu⟩
  ·rcases List.mem_append.mp z with z | z
   ·exact r.trk a z
   ·exact tk a z
 ·intro a o e na
  rcases G.fr a o e na with q | ⟨q1,q2,ob,q⟩
  ·refine .inl (ch a o q fun hx=>?_)
   have:a∈fs.flatten:=p0.mem_iff.mpr (List.mem_append_left _ (by rw[e3];simp[hx]))
   rcases G.own a (List.mem_append_left _ this) with w | w
   ·exact na w
   ·rw[e]at w;cases w
  ·exact .inr ⟨q1,q2,ob,m.z _ _ _ q⟩
 ·obtain⟨ob,u,e⟩:=G.lk a ha
  exact⟨ob,u,m.z _ _ _ e⟩
theorem Step.mut {d:D} {g1 fp' g2 fx:List Addr} {dn:D} {fn:List Addr} (G:Good C fs env σ H (fx++tf)) (e1:env[i]?=some (some d)) (e3:fs.getD i []=g1++fp'++g2)
  (m:Mono H H') (ch:∀a o,H a=some o→a∉fp'→H' a=some o):Step [i] tf fs env H (fs.set i fn) (env.set i (some dn)) H':=by
 have hl:=G.lt e1
 have inf:∀a∈fp',a∈fs.getD i []:=fun a ha=>by rw[e3];simp[ha]
 refine⟨fun a ha=>?_,fun j hj=>?_,fun j hj=>?_,fun j hj a ha=>?_,m⟩
 ·obtain⟨o,e,_⟩:=G.trk a (by simp[ha])
  rw[e];exact ch a o e fun hx=>G.apartT (inf a hx) (by simp[ha])
 ·rw[Yt fs i j _ hl,if_neg (by simpa using hj)]
 ·rw[List.getElem?_set,if_neg (by intro z;subst z;simp at hj)]
 ·obtain⟨o,e,_⟩:=G.trk a (List.mem_append_left _ (UD ha))
  rw[e];exact ch a o e fun hx=>G.apart (by simpa using hj) ha (inf a hx)
structure MuOk (X:Cx) (T:String) (r:V→List V→Hp→VK→Prop) (kd:D→Bool) (mp:D→List D→Option (D × D)):Prop where
 run:∀C H v d fp vs ds fpa Q d' res,C.At X→Fr C H→Rep C H d v fp→Reps C H ds vs fpa→(fp++fpa).Nodup→mp d ds=some (d',res) →
  (∀H' w fp' fpr,Mono H H'→(∀a o,H a=some o→a∉fp→H' a=some o)→Rep C H' d' v fp'→Rep C H' res w fpr→(fp'++fpr).Nodup→(∀a∈fp'++fpr,a∈fp∨a∈fpa∨H a=none)→Q w H')→r v vs H Q
 ty:∀C H v d fp,C.At X→Fr C H→Rep C H d v fp→kd d=true→tyV X.K T v H
def cMut (i:Nat) (kd:D→Bool) (mp:D→List D→Option (D × D)) (cl:CL) (cs:CA):CE:=fun env=>(cl env).bind fun dF env=>if kd dF.1 then (cs env).bind fun ds env=>match mp dF.1 ds with
 | some dr=>.ok dr.2 (env.set i (some (dF.2 dr.1)))
 | none=>.err
 else .err
theorem mut_go {T:String} {r:V→List V→Hp→VK→Prop} {kd:D→Bool} {mp:D→List D→Option (D × D)} (mu:MuOk X T r kd mp) {t:TE} {t2:TA} (hi:djB [i] M2=true)
  (q:∀C fs env σ H tf Q,C.At X→Good C fs env σ H tf→Je5 W C i M1 tf fs env σ H Q (cl env)→t σ H Q)
  (q2:∀C fs env σ H tf Q,C.At X→Good C fs env σ H tf→Jc6 W C M2 tf fs env σ H Q (cs env)→t2 σ H Q) {tt:TE}
  (htt:∀σ H Q,(t σ H fun x H1=>(tyV X.K T x H1∧t2 σ H1 fun xs H2=>r x xs H2 Q))→tt σ H Q) :
  ∀C fs env σ H tf Q,C.At X→Good C fs env σ H tf→Yw W C (M1++(M2++[i])) tf fs env σ H Q (cMut i kd mp cl cs env)→tt σ H Q:=by
 intro C fs env σ H tf Q hC G po
 refine htt σ H Q (q C fs env σ H tf _ hC G ?_)
 unfold cMut at po
 cases e1:cl env with
 | err=>rw[e1]at po;exact po
 | ex x env'=>rw[e1]at po;exact fun cv dd fs' H' G' s=>po cv dd fs' H' G' (s.weak YM fun _ z=>z)
 | ok dF env1 =>
  rw[e1]at po
  intro v' fs1 H1 d v g1 fp' g2 G1 s1 hd hv hf Fo
  have po0:Yw W C (M1++(M2++[i])) tf fs env σ H Q (if kd dF.1 then (cs env1).bind fun ds env=>match mp dF.1 ds with
   | some dr=>.ok dr.2 (env.set i (some (dF.2 dr.1)))
   | none=>.err
   else .err):=po
  split at po0
  case isFalse=>exact po0.elim
  rename_i hkd
  refine⟨mu.ty C H1 v' dF.1 fp' hC G1.fr Fo.here hkd,?_⟩
  refine q2 C fs1 env1 σ H1 tf _ hC G1 ?_
  have po1:Yw W C (M1++(M2++[i])) tf fs env σ H Q ((cs env1).bind fun ds env=>match mp dF.1 ds with
   | some dr=>.ok dr.2 (env.set i (some (dF.2 dr.1)))
   | none=>.err):=po0
  cases e2:cs env1 with
  | err=>rw[e2]at po1;exact po1
  | ex x env'=>rw[e2]at po1;exact fun cv dd fs' H' G' s=>po1 cv dd fs' H' G' ((s1.trans s).weak (fun i hi=>by
    rcases List.mem_append.mp hi with z | z<;>simp[z]) fun _ z=>z)
  | ok ds env2 =>
   rw[e2]at po1
   intro vs fs2 H2 fpa G2 s2 ra
   have ni:i∉M2:=US hi i (by simp)
   have Fo2:=Fo.keep s2.m (fun a ha=>s2.h i ni a (by rw[hf];exact ha))
   have hd2:env2[i]?=some (some d):=by rw[s2.e i ni];exact hd
   have hf2:fs2.getD i []=g1++fp'++g2:=by rw[s2.f i ni];exact hf
   have po2:Yw W C (M1++(M2++[i])) tf fs env σ H Q (match mp dF.1 ds with
    | some dr=>.ok dr.2 (env2.set i (some (dF.2 dr.1)))
    | none=>.err):=po1
   cases e3:mp dF.1 ds with
   | none=>rw[e3]at po2;exact po2.elim
   | some dr =>
    rw[e3]at po2
    obtain⟨d',res⟩:=dr
    have inf:∀a∈fp',a∈fs2.getD i []:=fun a ha=>by rw[hf2];simp[ha]
    have ndp:(fp'++fpa).Nodup:=by
     have nd:=G2.nd
     refine List.nodup_append.mpr ⟨?_,(List.nodup_append.mp (List.nodup_append.mp nd).2.1).1,fun a ha b hb eab=>?_⟩
     ·have:=(List.nodup_append.mp nd).1
      have:=(UQ fs2 (G2.lt hd2)).nodup_iff.mp this
      have:=(List.nodup_append.mp this).1
      rw[hf2]at this
      exact(List.nodup_append.mp (List.nodup_append.mp this).1).2.1
     ·subst eab;exact G2.apartT (inf a ha) (by simp[hb])
    refine mu.run C H2 v' dF.1 fp' vs ds fpa Q d' res hC G2.fr Fo2.here ra ndp e3 fun H3 w fp3 fpr m3 ch r3 rr nd3 sub3=>?_
    have tfk:∀a∈tf,H3 a=H2 a:=fun a ha=>by
     obtain⟨o,e,_⟩:=G2.trk a (by simp[ha])
     rw[e];exact ch a o e fun hx=>G2.apartT (inf a hx) (by simp[ha])
    have Gn:Good C (fs2.set i (g1++fp3++g2)) (env2.set i (some (dF.2 d'))) σ H3 (fpr++tf):=by
     refine G2.mut hd2 hv hf2 Fo2 m3 ch r3 ?_ ?_ ?_
     ·rw[←List.append_assoc]
      refine List.nodup_append.mpr ⟨nd3,(List.nodup_append.mp (List.nodup_append.mp G2.nd).2.1).2.1,fun a ha b hb eab=>?_⟩
      subst eab
      rcases sub3 a ha with z | z | z
      ·exact G2.apartT (inf a z) (by simp[hb])
      ·exact(List.nodup_append.mp (List.nodup_append.mp G2.nd).2.1).2.2 a z a hb rfl
      ·obtain⟨o,e,_⟩:=G2.trk a (by simp[hb])
       rw[z]at e;cases e
     ·intro a ha
      rw[←List.append_assoc]at ha
      rcases List.mem_append.mp ha with z | z
      ·rcases sub3 a z with w | w | w
       ·exact .inl w
       ·exact .inr (.inl (by simp[w]))
       ·exact .inr (.inr w)
      ·exact .inr (.inl (by simp[z]))
     ·intro a ha
      rcases List.mem_append.mp ha with z | z
      ·exact rr.trk a z
      ·rw[tfk a z];exact G2.trk a (by simp[z])
    have sn:Step [i] tf fs2 env2 H2 (fs2.set i (g1++fp3++g2)) (env2.set i (some (dF.2 d'))) H3:=Step.mut (d:=d) G2 hd2 hf2 m3 ch
    exact po2 w _ H3 fpr Gn (by
     have:=(s1.trans s2).trans sn
     rw[List.append_assoc]at this;exact this) rr
variable {T id:String} {name:Str} {apos cpos:Pos} {r:V→List V→Hp→VK→Prop} {kd:D→Bool} {mp:D→List D→Option (D × D)} {e1':Expr}
theorem Jel (mu:MuOk X T r kd mp) (pa:PlainAttrs T) (slot:Slot T name id) (hty:typeOf (.builtin id)=pure (.type "method_descriptor")) (hm:MtR X id r) (ho:SL X W i M1 o cl) (ha:SAO X W M2 (e::es) cs)
  (hi:djB [i] M2=true:=by decide) (hbase:attributeBase o name X.env (eval o X.env)=eval o X.env:=by rfl)
  (hfew:((backTo cpos (starEach (e::es) X.env)).all (fun x=>!x.1) && (backToKw cpos (keywordEach [] X.env)).all (fun x=>x.1.isSome)
   && decide ((e::es).length+([]:List Keyword).length+(if ([]:List Keyword).isEmpty then 0 else 1) < 30))=true:=by rfl)
  (hline:(apos.endLine == cpos.line)=true:=by rfl) (hs:starEach (e::es) X.env=(false,eval e X.env)::starEach es X.env:=by rfl) (hplain:(backTo cpos (starEach es X.env)).any (·.1)=false:=by rfl) :
  SO X W (M1++(M2++[i])) (.Call (.Attribute o name apos) (e::es) [] cpos) (cMut i kd mp cl cs):=by
 obtain⟨t,p,q⟩:=ho.go
 obtain⟨t2,p2,q2⟩:=ha.go
 exact⟨tBM X.K T r t t2,pe_bm pa slot hty hm p p2 hbase hfew hline hs hplain,mut_go mu hi q q2 fun σ H Q h=>h⟩
def kdL:D→Bool
 | .lst .m _=>true
 | _=>false
theorem kdL_inv {d:D} (h:kdL d=true):∃ds,d=.lst .m ds:=by
 unfold kdL at h
 split at h
 ·exact⟨_,rfl⟩
 ·cases h
theorem Jdj:∀C H v d fp,C.At X→Fr C H→Rep C H d v fp→kdL d=true→tyV X.K "list" v H:=by
 intro C H v d fp hC hF r h
 obtain⟨ds,rfl⟩:=kdL_inv h
 obtain⟨a,vs,f,rfl,q,_⟩:=Jt hC hF r
 exact .inl ⟨rfl,vs,q⟩
theorem Jei {ds v fp} (r:Rep C H (.lst .m ds) v fp):∃a vs f,v=.ref a∧H a=some (.lst vs)∧Reps C H ds vs f∧fp=a::f:=by
 obtain⟨a,vs,f1,f2,e,⟨h,rfl⟩,r,_,e2⟩:=r
 exact⟨a,vs,f2,e,h,r,e2⟩
theorem Yu:∀{ds es:List D} {vs ws:List V} {f g:List Addr},Reps C H ds vs f→Reps C H es ws g→Reps C H (ds++es) (vs++ws) (f++g)
 | [],es,vs,ws,f,g,⟨h1,h2⟩,r=>by subst h1 h2;exact r
 | d::ds,es,vs,ws,f,g,⟨v,vs',f1,f2,e,r1,rs,e2⟩,r=>by subst e e2;exact⟨v,vs'++ws,f1,f2++g,rfl,r1,Yu rs r,by simp⟩
def Qn:D→List D→Option (D × D)
 | .lst .m ds,[x]=>if ds.length < sizeLine then some (.lst .m (ds++[x]),.non) else none
 | _,_=>none
theorem mu_append:MuOk X "list" rAppend kdL Qn:=by
 refine⟨?_,Jdj⟩
 intro C H v d fp vs ds fpa Q d' res hC hF r ra nd h k
 unfold Qn at h
 split at h
 ·rename_i ds x
  split at h
  ·rename_i hz
   cases h
   obtain⟨a,ws,f,rfl,hH,rs,rfl⟩:=Jei r
   obtain⟨w,rfl,rx⟩:=YZ ra
   have m:=Mono.upd (o:=.lst (ws++[w])) hH trivial
   have nda:a∉f++fpa:=by simp at nd ⊢;exact⟨nd.1.1,nd.1.2⟩
   have kp:∀b∈f++fpa,upd H a (.lst (ws++[w])) b=H b:=fun b hb=>upd_ne (fun z=>nda (z ▸ hb))
   refine⟨a,ws,w,rfl,rfl,hH,by rw[←Jh rs];exact hz,?_⟩
   refine k _ .non (a::(f++fpa)) [] m (fun b o e hb=>?_) ⟨a,_,[a],_,rfl,⟨upd_same,rfl⟩,Yu (rs.keep (fun b hb=>kp b (by simp[hb])) m) ⟨w,[],fpa,[],rfl,rx.keep (fun b hb=>kp b (by simp[hb])) m,⟨rfl,rfl⟩,by simp⟩,.inl rfl,rfl⟩ ⟨rfl,rfl⟩ (by simpa using nd) fun b hb=>?_
   ·rw[upd_ne (fun z=>hb (by simp[z]))];exact e
   ·simp at hb ⊢
    rcases hb with z | z | z<;>simp[z]
  ·cases h
 ·cases h
def putD (ks:List Key) (ds:List D) (k:Key) (x:D):D:=match idxK ks k with
 | some j=>.dct .m ks (ds.set j x)
 | none=>.dct .m (ks++[k]) (ds++[x])
def stD:D→D→D→Option D
 | .lst .m ds,.int k,x=>(ixN ds.length k).map fun j=>.lst .m (ds.set j x)
 | .dct .m ks ds,k,x=>k.key.bind fun k=>if ks.length < sizeLine then some (putD ks ds k x) else none
 | _,_,_=>none
end
end VS
namespace VS
open PySem L2 SeqAt
section
variable {X:Cx} {W:WX} {M M1 M2 M3 V1 V2 V3 Rs R1 R2 R3:List Nat} {e a b c tg o:Expr} {es:List Expr} {ca cb cc:CE} {cs:CA} {pos p:Pos} {cl:CL} {i:Nat}
variable {pins:List (Addr × Obj)} {σ:St} {H H1 H2 H':Hp} {s:Shared} {C C':Ctx} {fs fs1 fs2:FPs} {env env1 env2:Env} {tf tf' own:List Addr}
def Jek:V→V→V→Hp→(Hp→Prop)→Prop:=fun o i v H Q=>∃a H',o=.ref a∧DPut H a i v H'∧Q H'
theorem set_dict {k:Nat} (hr:Room k X.A):PSet X Jek:=by
 intro pins s σ H o i v ov iv u Q I ro ri rv ⟨a,H',e,g,q⟩
 subst e
 cases (show ov=Value.ref a from ro)
 exact d_setItem (by have:=hr.units;omega) I g ri rv fun s' I'=>⟨H',I',q⟩
theorem set_any {k:Nat} (hr:Room k X.A):PSet X (fun o i v H Q=>rSetL o i v H Q∨Jek o i v H Q):=by
 intro pins s σ H o i v ov iv u Q I ro ri rv h
 rcases h with h | h
 ·exact set_list pins s σ H o i v ov iv u Q I ro ri rv h
 ·exact set_dict hr pins s σ H o i v ov iv u Q I ro ri rv h
theorem JaM {kvs:List (Key × V)} {j:Nat} {k:Key} {v:V}:(kvs.set j (k,v)).map (·.2)=(kvs.map (·.2)).set j v:=by
 rw[List.map_set]
theorem JaT {kvs:List (Key × V)} {j:Nat} {k:Key} {v:V} (h:(kvs[j]?).map (·.1)=some k):(kvs.set j (k,v)).map (·.1)=kvs.map (·.1):=by
 rw[List.map_set]
 have hj:j < kvs.length:=by
  by_cases q:j < kvs.length
  ·exact q
  ·rw[List.getElem?_eq_none (by omega)]at h;simp at h
 have:(kvs.map (·.1))[j]'(by simpa using hj)=k:=by
  rw[List.getElem?_eq_getElem hj]at h
  simpa using h
 conv=>rhs;rw[←List.set_getElem_self (as:=kvs.map (·.1)) (i:=j) (by simpa using hj)]
 rw[this]
theorem Jbj:∀{ks:List Key} {k:Key} {j:Nat},idxK ks k=some j→ks[j]?=some k
 | [],k,j,h=>by simp[idxK]at h
 | k0::ks,k,j,h=>by
  simp only[idxK]at h
  by_cases e:k0=k
  ·rw[if_pos e]at h;cases h;simp[e]
  ·rw[if_neg e]at h
   obtain⟨j',h',rfl⟩:=Option.map_eq_some_iff.mp h
   simpa using Jbj h'
theorem Jb7:∀{ks:List Key} {k:Key},idxK ks k=none→k∉ks
 | [],k,_=>by simp
 | k0::ks,k,h=>by
  simp only[idxK]at h
  by_cases e:k0=k
  ·rw[if_pos e]at h;cases h
  ·rw[if_neg e]at h
   have:=Jb7 (ks:=ks) (k:=k) (by simpa using h)
   simp[this,Ne.symm e]
theorem st_ok {d y x d':D} {v w vx:V} {fp fw fx} (hC:C.At X) (hF:Fr C H) (r:Rep C H d v fp) (ry:Rep C H y w fw) (rx:Rep C H x vx fx) (nd:(fp++fx).Nodup) (h:stD d y x=some d') {Q:Hp→Prop}
  (k:∀H' fp',Mono H H'→(∀a o,H a=some o→a∉fp→H' a=some o)→Rep C H' d' v fp'→fp'.Nodup→(∀a∈fp',a∈fp∨a∈fx)→Q H'):rSetL v w vx H Q∨Jek v w vx H Q:=by
 unfold stD at h
 split at h
 ·rename_i ds n
  obtain⟨j,hj,rfl⟩:=Option.map_eq_some_iff.mp h
  obtain⟨a,vs,f,rfl,hH,rs,rfl⟩:=Jei r
  obtain⟨rfl,_⟩:=ry
  have hjl:j < ds.length:=(ixN_seq hj).2.1
  obtain⟨w',g1,fo,g2,h1,h2,h3,h4⟩:=QS rs (j:=j) (x:=ds[j]) (by simp[hjl])
  have m:=Mono.upd (o:=.lst (vs.set j vx)) hH trivial
  subst h3
  have nda:a∉g1++fo++g2++fx:=by simp at nd ⊢;exact⟨nd.1.1,nd.1.2.1,nd.1.2.2.1,nd.1.2.2.2⟩
  refine .inl ⟨a,vs,n,j,rfl,rfl,hH,by rw[←Jh rs];exact hj,?_⟩
  have kp:∀b,b≠a→upd H a (.lst (vs.set j vx)) b=H b:=fun b hb=>upd_ne hb
  refine k _ (a::(g1++fx++g2)) m (fun b o e hb=>?_) ⟨a,_,[a],_,rfl,⟨upd_same,rfl⟩,h4 _ x vx fx m (fun b hb=>kp b ?_) (rx.keep (fun b hb=>kp b ?_) m),.inl rfl,rfl⟩ ?_ ?_
  ·rw[kp b (fun z=>hb (by simp[z]))];exact e
  ·intro z;subst z;exact nda (by simp at hb ⊢;rcases hb with z | z<;>simp[z])
  ·intro z;subst z;exact nda (by simp[hb])
  ·have p:(a::(g1++fx++g2)++fo).Perm (a::(g1++fo++g2)++fx):=by
    refine List.Perm.cons a ?_
    show ((g1++fx++g2)++fo).Perm ((g1++fo++g2)++fx)
    simp only[List.append_assoc]
    refine List.Perm.append_left g1 ?_
    have a1:(fx++(g2++fo)).Perm ((g2++fo)++fx):=List.perm_append_comm
    refine a1.trans ?_
    rw[List.append_assoc]
    exact List.perm_append_comm_assoc _ _ _
   exact(List.nodup_append.mp (p.nodup_iff.mpr nd)).1
  ·intro b hb
   simp at hb ⊢
   rcases hb with z | z | z | z<;>simp[z]
 ·rename_i ks ds
  obtain⟨ky,hk,h⟩:=Option.bind_eq_some_iff.mp h
  split at h
  case isFalse=>cases h
  rename_i hz
  cases h
  obtain⟨a,kvs,f1,f,rfl,⟨hH,rfl⟩,⟨hks,hnd⟩,rs,_,rfl⟩:=r
  have ey:=Jcp hk ry
  have hl:kvs.length < sizeLine:=by
   have:kvs.length=ks.length:=by rw[←hks];simp
   omega
  have m:=Mono.upd (o:=.dK (putK kvs ky vx)) hH trivial
  have kp:∀b,b≠a→upd H a (.dK (putK kvs ky vx)) b=H b:=fun b hb=>upd_ne hb
  refine .inr ⟨a,_,rfl,.inl ⟨kvs,ky,hH,ey,hl,rfl⟩,?_⟩
  cases q:idxK ks ky with
  | some j =>
   have ed:putD ks ds ky x=.dct .m ks (ds.set j x):=by unfold putD;rw[q]
   rw[ed]at k
   have q':=q
   rw[←hks]at q'
   have hn:(kvs.map (·.1)).Nodup:=by rw[hks];exact hnd
   have e1:=Jay (v:=vx) hn q'
   have hj:=(JaU q').2
   have hjd:j < ds.length:=by rw[Jh rs];simpa using hj
   obtain⟨w',g1,fo,g2,h1,h2,h3,h4⟩:=QS rs (j:=j) (x:=ds[j]) (by simp[hjd])
   subst h3
   have nda:a∉g1++fo++g2++fx:=by simp at nd ⊢;exact⟨nd.1.1,nd.1.2.1,nd.1.2.2.1,nd.1.2.2.2⟩
   refine k _ (a::(g1++fx++g2)) m (fun b o e hb=>?_) ⟨a,putK kvs ky vx,[a],_,rfl,⟨upd_same,rfl⟩,⟨?_,hnd⟩,?_,.inl rfl,rfl⟩ ?_ ?_
   ·rw[kp b (fun z=>hb (by simp[z]))];exact e
   ·rw[e1,JaT,hks]
    have:=Jbj q'
    rw[List.getElem?_map]at this;exact this
   ·have hs2:(putK kvs ky vx).map (·.2)=(kvs.map (·.2)).set j vx:=by rw[e1,JaM]
    rw[hs2]
    refine h4 _ x vx fx m (fun b hb=>kp b ?_) (rx.keep (fun b hb=>kp b ?_) m)
    ·intro z;subst z;exact nda (by simp at hb ⊢;rcases hb with z | z<;>simp[z])
    ·intro z;subst z;exact nda (by simp[hb])
   ·have p:(a::(g1++fx++g2)++fo).Perm (a::(g1++fo++g2)++fx):=by
     refine List.Perm.cons a ?_
     show ((g1++fx++g2)++fo).Perm ((g1++fo++g2)++fx)
     simp only[List.append_assoc]
     refine List.Perm.append_left g1 ?_
     have a1:(fx++(g2++fo)).Perm ((g2++fo)++fx):=List.perm_append_comm
     refine a1.trans ?_
     rw[List.append_assoc]
     exact List.perm_append_comm_assoc _ _ _
    exact(List.nodup_append.mp (p.nodup_iff.mpr (by simpa using nd))).1
   ·intro b hb
    simp at hb ⊢
    rcases hb with z | z | z | z<;>simp[z]
  | none =>
   have ed:putD ks ds ky x=.dct .m (ks++[ky]) (ds++[x]):=by unfold putD;rw[q]
   rw[ed]at k
   have q':=q
   rw[←hks]at q'
   have e1:=putK_new vx (JbH q')
   have nda:a∉f++fx:=by simp at nd ⊢;exact⟨nd.1.1,nd.1.2⟩
   refine k _ (a::(f++fx)) m (fun b o e hb=>?_) ⟨a,putK kvs ky vx,[a],_,rfl,⟨upd_same,rfl⟩,⟨by rw[e1,List.map_append,hks];rfl,?_⟩,?_,.inl rfl,rfl⟩ (by simpa using nd) ?_
   ·rw[kp b (fun z=>hb (by simp[z]))];exact e
   ·refine List.nodup_append.mpr ⟨hnd,by simp,fun x hx y hy e=>?_⟩
    simp at hy;subst hy;subst e
    exact Jb7 q hx
   ·have hs2:(putK kvs ky vx).map (·.2)=kvs.map (·.2)++[vx]:=by rw[e1,List.map_append];rfl
    rw[hs2]
    refine Yu (rs.keep (fun b hb=>kp b ?_) m) ⟨vx,[],fx,[],rfl,rx.keep (fun b hb=>kp b ?_) m,⟨rfl,rfl⟩,by simp⟩
    ·intro z;subst z;exact nda (by simp[hb])
    ·intro z;subst z;exact nda (by simp[hb])
   ·intro b hb
    simp at hb ⊢
    rcases hb with z | z | z<;>simp[z]
 ·cases h
def Ql (i:Nat) (cl:CL) (cb:CE):D→Env→Option Env:=fun x env=>match cl env with
 | .ok dF env1=>match cb env1 with
  | .ok y env2=>(stD dF.1 y x).map fun d'=>env2.set i (some (dF.2 d'))
  | _=>none
 | _=>none
theorem Jax {k:Nat} {W1 W2:WX} (hr:Room k X.A) (ho:SL X W1 i M1 o cl) (hb:SB X W2 M2 R2 b cb) (hi:djB [i] M2=true:=by decide)
  (ha:∀v,assign (.Subscript o b pos) X.env v=(do
   let ov ←holding [v] (eval o X.env)
   let iv ←holding [v,ov] (eval b X.env)
   standAt pos
   holding [v,ov,iv] (setItem ov iv v)
   release [v,ov,iv] []):=by intro _;rfl):SG X (M1++(M2++[i])) [] (.Subscript o b pos) (Ql i cl cb):=by
 obtain⟨t,p,q⟩:=ho.go
 obtain⟨t2,p2,q2⟩:=hb.go
 refine⟨gSub t t2 _,pg_sub p p2 (set_any hr) ha,fun C fs env σ H tf Q x vx fx hC G rx po=>?_⟩
 unfold Ql at po
 refine q C fs env σ H (fx++tf) _ hC G ?_
 cases e1:cl env with
 | err=>rw[e1]at po;exact po.elim
 | ex z env'=>rw[e1]at po;exact po.elim
 | ok dF env1 =>
  rw[e1]at po
  intro v' fs1 H1 d v g1 fp' g2 G1 s1 hd hv hf Fo
  refine q2 C fs1 env1 σ H1 (fx++tf) _ hC G1 ?_
  have po1:QX C (M1++(M2++[i])) [] tf fs env σ H Q (match cb env1 with
   | .ok y env2=>(stD dF.1 y x).map fun d'=>env2.set i (some (dF.2 d'))
   | _=>none):=po
  cases e2:cb env1 with
  | err=>rw[e2]at po1;exact po1.elim
  | ex z env'=>rw[e2]at po1;exact po1.elim
  | ok y env2 =>
   rw[e2]at po1
   intro w fs2 H2 fw own G2 s2 rw' iw
   have ni:i∉M2:=US hi i (by simp)
   have Fo2:=Fo.keep s2.m (fun a ha=>s2.h i ni a (by rw[hf];exact ha))
   have hd2:env2[i]?=some (some d):=by rw[s2.e i ni];exact hd
   have hf2:fs2.getD i []=g1++fp'++g2:=by rw[s2.f i ni];exact hf
   have po2:QX C (M1++(M2++[i])) [] tf fs env σ H Q ((stD dF.1 y x).map fun d'=>env2.set i (some (dF.2 d'))):=po1
   cases e3:stD dF.1 y x with
   | none=>rw[e3]at po2;exact po2.elim
   | some d' =>
    rw[e3]at po2
    have G2':Good C fs2 env2 σ H2 (fx++tf):=G2.drop
    have rx2:Rep C H2 x vx fx:=(rx.keep (fun a ha=>s1.t a (by simp[ha])) s1.m).keep (fun a ha=>s2.t a (by simp[ha])) s2.m
    have inf:∀a∈fp',a∈fs2.getD i []:=fun a ha=>by rw[hf2];simp[ha]
    have ndp:(fp'++fx).Nodup:=by
     have nd:=G2'.nd
     refine List.nodup_append.mpr ⟨?_,(List.nodup_append.mp (List.nodup_append.mp nd).2.1).1,fun a ha b hb eab=>?_⟩
     ·have:=(List.nodup_append.mp nd).1
      have:=(UQ fs2 (G2'.lt hd2)).nodup_iff.mp this
      have:=(List.nodup_append.mp this).1
      rw[hf2]at this
      exact(List.nodup_append.mp (List.nodup_append.mp this).1).2.1
     ·subst eab;exact G2'.apartT (inf a ha) (by simp[hb])
    refine st_ok hC G2.fr Fo2.here rw' rx2 ndp e3 fun H3 fp3 m3 ch r3 nd3 sub3=>?_
    have tfk:∀a∈tf,H3 a=H2 a:=fun a ha=>by
     obtain⟨o,e,_⟩:=G2'.trk a (by simp[ha])
     rw[e];exact ch a o e fun hx=>G2'.apartT (inf a hx) (by simp[ha])
    have Gn:Good C (fs2.set i (g1++fp3++g2)) (env2.set i (some (dF.2 d'))) σ H3 tf:=by
     refine G2'.mut hd2 hv hf2 Fo2 m3 ch r3 ?_ ?_ ?_
     ·refine List.nodup_append.mpr ⟨nd3,(List.nodup_append.mp (List.nodup_append.mp G2'.nd).2.1).2.1,fun a ha b hb eab=>?_⟩
      subst eab
      rcases sub3 a ha with z | z
      ·exact G2'.apartT (inf a z) (by simp[hb])
      ·exact(List.nodup_append.mp (List.nodup_append.mp G2'.nd).2.1).2.2 a z a hb rfl
     ·intro a ha
      rcases List.mem_append.mp ha with z | z
      ·rcases sub3 a z with w | w
       ·exact .inl w
       ·exact .inr (.inl (by simp[w]))
      ·exact .inr (.inl (by simp[z]))
     ·intro a ha
      rw[tfk a ha];exact G2'.trk a (by simp[ha])
    have sn:Step [i] tf fs2 env2 H2 (fs2.set i (g1++fp3++g2)) (env2.set i (some (dF.2 d'))) H3:=Step.mut (d:=d) G2' hd2 hf2 m3 ch
    have w1:=s1.weak (M':=M1) (tf':=tf) (fun _ z=>z) fun x hx=>by simp[hx]
    have w2:=s2.weak (M':=M2) (tf':=tf) (fun _ z=>z) fun x hx=>by simp[hx]
    have:=(w1.trans w2).trans sn
    rw[List.append_assoc]at this
    exact po2 _ σ H3 Gn this.ss
end
end VS
namespace VS
open PySem L2 SeqAt
section
variable {X:Cx} {W:WX} {pos:Pos}
def cGet (i:Nat):CE:=fun env=>match env[i]? with
 | some (some d)=>if d.imm then .ok d env else .ok d (env.set i none)
 | _=>.err
theorem Ye (i:Nat) {x:Str} (hN:X.N[i]?=some x:=by rfl) (hv:Vis X.env.scope x:=by first | exact Or.inl rfl | exact Or.inr (Or.inl rfl) | exact Or.inr (Or.inr rfl)) (hd:(x == ("__debug__" : Str))=false:=by decide)
  (hcd:(x == ("__classdict__" : Str))=false:=by decide):SO X W [i] (.Name x pos) (cGet i):=by
 refine⟨tVar i,pe_var hN hv hd hcd,fun C fs env σ H tf Q hC G po=>?_⟩
 unfold cGet at po
 split at po
 ·rename_i d e1
  obtain⟨v,e2,r⟩:=G.rep i d e1
  split at po
  ·rename_i hi
   refine⟨v,e2,po v fs H [] (by simpa using G) .refl ?_⟩
   have:=r.imm hi
   first | exact this | exact this.1 | (subst this;exact r) | (rw[this]at r;exact r)
  ·refine⟨v,e2,po v (fs.set i []) H _ (G.mv e1) ⟨fun _ _=>rfl,fun j hj=>?_,fun j hj=>?_,fun _ _ _ _=>rfl,.refl H⟩ r⟩
   ·rw[Yt fs i j [] (G.lt e1),if_neg (by simpa using hj)]
   ·rw[List.getElem?_set,if_neg (by intro z;subst z;simp at hj)]
 ·exact po.elim
variable {M M1 M2 M3 V1 V2 V3 Rs R1 R2 R3:List Nat} {e a b c tg:Expr} {es:List Expr} {ca cb cc:CE} {cs:CA} {cr:Env→R (List AV)} {io:List Bool} {i j:Nat} {x y:Str}
theorem ss_parI {px py pt:Pos} {kt k2 pt2} (hc:X.calm=true) (hN:X.N.Nodup) (ha:SAO X W M [a,b] cs) (hi:X.N[i]?=some x:=by rfl) (hj:X.N[j]?=some y:=by rfl) (hij:i≠j:=by decide)
  (hx:X.env.scope.names.lookup x=some .local:=by rfl) (hy:X.env.scope.names.lookup y=some .local:=by rfl)
  (hw:swappedStores [.Tuple [.Name x px,.Name y py] kt pt] (.Tuple [a,b] k2 pt2) X.env=pure (some [x,y]):=by rfl)
  (hs:swapsWithSole [.Tuple [.Name x px,.Name y py] kt pt] (.Tuple [a,b] k2 pt2) pos.line X.env=pure false:=by rfl) :
  SS X W (M++([i]++[j])) ([i]++[j]) (.Assign [.Tuple [.Name x px,.Name y py] kt pt] (.Tuple [a,b] k2 pt2) pos) (sPar i j cs):=ss_par i j hc hN ha hi hj hij hx hy hw hs
theorem Ju {pos':Pos} (hN:X.N.Nodup) (h:SO X W M e ca) (hi:X.N[i]?=some x:=by rfl) (hx:Loc X.env.scope x:=by first | exact .inl rfl | exact .inr rfl) (hs:swapsWith e (some (.Name x pos')) pos.line X.env=pure false:=by rfl) (hf:X.fn x=true∨X.env.scope.names.lookup x=some .local:=by first | exact .inl rfl | exact .inr rfl | assumption) :
  SS X W (M++[i]) [i] (.Assign [.Name x pos'] e pos) (sAsg ca (gSet i)):=ss_set i hN h hi hx hs hf
theorem Jx (hr:SRI X W M2 R2 io es cr) (hN:X.N[i]?=some x:=by rfl) (hv:Vis X.env.scope x:=by first | exact Or.inl rfl | exact Or.inr (Or.inl rfl) | exact Or.inr (Or.inr rfl)) (hd:(x == ("__debug__" : Str))=false:=by decide)
  (hcd:(x == ("__classdict__" : Str))=false:=by decide) (hs:starEach (.Name x pos::es) X.env=(false,eval (.Name x pos) X.env)::starEach es X.env:=by rfl):SRI X W ([i]++M2) R2 (true::io) (.Name x pos::es) (aOw (cMv i) (some i) cr):=sri_io i hr hN hv hd hcd hs
end
end VS
namespace VS
open PySem L2 SeqAt
section
variable {α β:Type} (env:Env) (i j:Nat) (c ca cb cc:CE) (cs:CA) (ct:CT) (ta tb:CT) (d:D) (p q:D→D→Option D) (p1:D→Option D) (pl:List D→Option D) (s1 s2:CS) (g:D→Env→Option Env)
@[simp] theorem e_bind1 (a:α) (f:α→Env→R β):(R.ok a env).bind f=f a env:=(rfl)
@[simp] theorem e_bind2 (x:Exn) (f:α→Env→R β):(R.ex x env:R α).bind f=.ex x env:=(rfl)
@[simp] theorem e_bind3 (f:α→Env→R β):(R.err:R α).bind f=.err:=(rfl)
@[simp] theorem e_of1 (a:α):R.of (some a) env=.ok a env:=(rfl)
@[simp] theorem e_of2:R.of (none:Option α) env=.err:=(rfl)
@[simp] theorem e_var:cVar i env=match env[i]? with
 | some (some d)=>.ok d env
 | _=>.err:=(rfl)
@[simp] theorem e_mv:cMv i env=match env[i]? with
 | some (some d)=>.ok d (env.set i none)
 | _=>.err:=(rfl)
@[simp] theorem e_get:cGet i env=match env[i]? with
 | some (some d)=>if d.imm then .ok d env else .ok d (env.set i none)
 | _=>.err:=(rfl)
@[simp] theorem e_k:cK d env=.ok d env:=(rfl)
@[simp] theorem e_two:cTwo ca cb env=(ca env).bind fun x env=>(cb env).bind fun y env=>.ok (x,y) env:=(rfl)
@[simp] theorem e_2:c2 p ca cb env=(cTwo ca cb env).bind fun xy env=>R.of (p xy.1 xy.2) env:=(rfl)
@[simp] theorem e_1:c1 p1 ca env=(ca env).bind fun x env=>R.of (p1 x) env:=(rfl)
@[simp] theorem e_idx:cIdx ca cb env=c2 ixD ca cb env:=(rfl)
@[simp] theorem e_imm:cImm c env=(c env).bind fun d env=>if d.imm then .ok d env else .err:=(rfl)
@[simp] theorem e_nil:cNil env=.ok [] env:=(rfl)
@[simp] theorem e_cons:Jb c cs env=(c env).bind fun d env=>(cs env).bind fun ds env=>.ok (d::ds) env:=(rfl)
@[simp] theorem e_L:cL pl cs env=(cs env).bind fun ds env=>R.of (pl ds) env:=(rfl)
@[simp] theorem e_tup:cTup cs env=(cs env).bind fun ds env=>if ds.length≤sizeLine then .ok (.tup ds) env else .err:=(rfl)
@[simp] theorem e_lst:cLst cs env=(cs env).bind fun ds env=>if ds.length≤sizeLine then .ok (.lst .m ds) env else .err:=(rfl)
@[simp] theorem e_tt:cTt ca env=(ca env).bind fun d env=>R.of d.tt env:=(rfl)
@[simp] theorem e_tt1 (b:Bool):D.tt (.bl b)=some b:=(rfl)
@[simp] theorem e_tand:ZY ta tb env=(ta env).bind fun b env=>if b=true then tb env else .ok false env:=(rfl)
@[simp] theorem e_tor:tcOr ta tb env=(ta env).bind fun b env=>if b=true then .ok true env else tb env:=(rfl)
@[simp] theorem e_tnot:UE ta env=(ta env).bind fun b env=>.ok (!b) env:=(rfl)
@[simp] theorem Jdt:cAnd ca cb env=(ca env).bind fun d env=>match d with
 | .bl true=>cb env
 | .bl false=>.ok (.bl false) env
 | _=>.err:=(rfl)
@[simp] theorem Je4:cNot ca env=(ca env).bind fun d env=>match d with
 | .bl b=>.ok (.bl (!b)) env
 | _=>.err:=(rfl)
@[simp] theorem e_anil:aNil env=.ok [] env:=(rfl)
@[simp] theorem e_aro (cr:Env→R (List AV)):aRo ca cr env=(ca env).bind fun d env=>(cr env).bind fun as env=>.ok (.ro d::as) env:=(rfl)
@[simp] theorem e_aow (wb:Option Nat) (cr:Env→R (List AV)):aOw ca wb cr env=(ca env).bind fun d env=>(cr env).bind fun as env=>.ok (.ow d wb::as) env:=(rfl)
@[simp] theorem Ja7 (φ:List D→FR) (cr:Env→R (List AV)):Jo φ cr env=(cr env).bind fun avs env=>ZM avs env (φ (avs.map AV.d)):=(rfl)
@[simp] theorem e_end1 (avs:List AV) (r:D) (os:List D):ZM avs env (.ok r os)=if r.nol && nols os then (match JZ avs os env with
  | some env'=>.ok r env'
  | none=>.err) else .err:=(rfl)
@[simp] theorem e_end2 (avs:List AV) (x:Exn) (os:List D):ZM avs env (.ex x os)=if nols os then (match JZ avs os env with
  | some env'=>.ex x env'
  | none=>.err) else .err:=(rfl)
@[simp] theorem e_ro (d:D):AV.d (.ro d)=d.lend:=(rfl)
@[simp] theorem e_ow (d:D) (wb:Option Nat):AV.d (.ow d wb)=d:=(rfl)
@[simp] theorem e_pb0:JZ [] [] env=some env:=(rfl)
@[simp] theorem e_pb1 (d:D) (as:List AV) (os:List D):JZ (.ro d::as) os env=JZ as os env:=by
 cases as<;>cases os<;>rfl
@[simp] theorem e_pb2 (d o:D) (as:List AV) (os:List D):JZ (.ow d (some i)::as) (o::os) env=JZ as os (env.set i (some o)):=(rfl)
@[simp] theorem e_pb3 (d o:D) (as:List AV) (os:List D):JZ (.ow d none::as) (o::os) env=JZ as os env:=(rfl)
@[simp] theorem e_snil:sNil env=.nx env:=(rfl)
@[simp] theorem Jep:sSeq s1 s2 env=(s1 env).bind s2:=(rfl)
@[simp] theorem e_ob1 (f:CS):(O.nx env).bind f=f env:=(rfl)
@[simp] theorem e_ob2 (f:CS):(O.rt d env).bind f=.rt d env:=(rfl)
@[simp] theorem e_ob3 (f:CS):(O.bk env).bind f=.bk env:=(rfl)
@[simp] theorem e_ob4 (f:CS):(O.ct env).bind f=.ct env:=(rfl)
@[simp] theorem e_ob5 (x:Exn) (f:CS):(O.ex x env).bind f=.ex x env:=(rfl)
@[simp] theorem e_ob6 (f:CS):(O.err).bind f=.err:=(rfl)
@[simp] theorem e_expr:JbP c env=match c env with
 | .ok _ env=>.nx env
 | .ex x env=>.ex x env
 | .err=>.err:=(rfl)
@[simp] theorem e_ret:sRet c env=match c env with
 | .ok d env=>.rt d env
 | .ex x env=>.ex x env
 | .err=>.err:=(rfl)
@[simp] theorem Jdv:sIf ct s1 s2 env=match ct env with
 | .ok k env=>if k=true then s1 env else s2 env
 | .ex x env=>.ex x env
 | .err=>.err:=(rfl)
@[simp] theorem e_gset:gSet i d env=some (env.set i (some d)):=(rfl)
@[simp] theorem e_asg:sAsg c g env=match c env with
 | .ok d env=>match g d env with
  | some env=>.nx env
  | none=>.err
 | .ex x env=>.ex x env
 | .err=>.err:=(rfl)
@[simp] theorem e_par:sPar i j cs env=match cs env with
 | .ok [d,e] env=>.nx ((env.set i (some d)).set j (some e))
 | .ok _ _=>.err
 | .ex x env=>.ex x env
 | .err=>.err:=(rfl)
@[simp] theorem e_imm1 (i:Int):(D.int i).imm=true:=(rfl)
@[simp] theorem e_imm2 (b:Bool):(D.bl b).imm=true:=(rfl)
@[simp] theorem e_imm3 (s:Str):(D.str s).imm=true:=(rfl)
@[simp] theorem e_imm4:D.non.imm=true:=(rfl)
@[simp] theorem e_imm5 (ds:List D):(D.tup ds).imm=imms ds:=(rfl)
@[simp] theorem e_imm6 (g:Fl) (ds:List D):(D.lst g ds).imm=((g == .l || g == .f) && imms ds):=(rfl)
@[simp] theorem e_imms0:imms []=true:=(rfl)
@[simp] theorem e_imms1 (ds:List D):imms (d::ds)=(d.imm && imms ds):=(rfl)
@[simp] theorem e_nol1 (i:Int):(D.int i).nol=true:=(rfl)
@[simp] theorem e_nol2 (b:Bool):(D.bl b).nol=true:=(rfl)
@[simp] theorem e_nol3 (s:Str):(D.str s).nol=true:=(rfl)
@[simp] theorem e_nol4:D.non.nol=true:=(rfl)
@[simp] theorem e_nol5 (ds:List D):(D.tup ds).nol=nols ds:=(rfl)
@[simp] theorem e_nol6 (ds:List D):(D.lst .m ds).nol=nols ds:=(rfl)
@[simp] theorem e_nols0:nols []=true:=(rfl)
@[simp] theorem e_nols1 (ds:List D):nols (d::ds)=(d.nol && nols ds):=(rfl)
@[simp] theorem e_lend1 (i:Int):(D.int i).lend=.int i:=(rfl)
@[simp] theorem e_lend2 (b:Bool):(D.bl b).lend=.bl b:=(rfl)
@[simp] theorem e_lend3 (s:Str):(D.str s).lend=.str s:=(rfl)
@[simp] theorem e_lend4:D.non.lend=.non:=(rfl)
@[simp] theorem e_lend5 (ds:List D):(D.tup ds).lend=.tup (lends ds):=(rfl)
@[simp] theorem e_lend6 (ds:List D):(D.lst .m ds).lend=.lst .l (lends ds):=(rfl)
@[simp] theorem e_lend7 (ds:List D):(D.lst .l ds).lend=.lst .l (lends ds):=(rfl)
@[simp] theorem e_lends0:lends []=[]:=(rfl)
@[simp] theorem e_lends1 (ds:List D):lends (d::ds)=d.lend::lends ds:=(rfl)
@[simp] theorem lends_ints:∀ns:List Int,lends (ns.map D.int)=ns.map D.int
 | []=>rfl
 | n::ns=>by simp[lends_ints ns]
@[simp] theorem imms_ints:∀ns:List Int,imms (ns.map D.int)=true
 | []=>rfl
 | n::ns=>by simp[imms_ints ns]
@[simp] theorem e_pI (cc:Int→Int→Bool) (g:Int→Int→Int) (i j:Int):pI cc g (.int i) (.int j)=if cc i j then some (.int (g i j)) else none:=(rfl)
@[simp] theorem e_pIB (g:Int→Int→Bool) (i j:Int):pIB g (.int i) (.int j)=some (.bl (g i j)):=(rfl)
@[simp] theorem e_neg (i:Int):pNeg (.int i)=some (.int (-i)):=(rfl)
@[simp] theorem e_eq (i j:Int):pEq (.int i) (.int j)=some (.bl (i == j)):=(rfl)
@[simp] theorem e_ne (i j:Int):pNe (.int i) (.int j)=some (.bl (!(i == j))):=(rfl)
@[simp] theorem e_abs (i:Int):pAbs [.int i]=some (.int (if i < 0 then -i else i)):=(rfl)
@[simp] theorem e_min2 (i j:Int):Jdw [.int i,.int j]=some (.int (if j < i then j else i)):=(rfl)
@[simp] theorem e_int1 (i:Int):Jct [.int i]=some (.int i):=(rfl)
@[simp] theorem e_int2 (b:Bool):Jct [.bl b]=some (.int (if b then 1 else 0)):=(rfl)
@[simp] theorem e_len1 (g:Fl) (ds:List D):pLen [.lst g ds]=some (.int ds.length):=(rfl)
@[simp] theorem e_len2 (ds:List D):pLen [.tup ds]=some (.int ds.length):=(rfl)
@[simp] theorem e_ix1 (g:Fl) (ds:List D) (i:Int):ixD (.lst g ds) (.int i)=atI ds i:=(rfl)
@[simp] theorem e_ix2 (ds:List D) (i:Int):ixD (.tup ds) (.int i)=atI ds i:=(rfl)
theorem UY {α:Type} {xs:List α} {k:Nat} (h:k < xs.length):atI xs (k:Int)=xs[k]?:=by
 unfold atI ixN
 rw[if_pos (by omega),if_pos (by omega)]
 simp
@[simp] theorem atI_0 {α:Type} (x:α) (xs:List α):atI (x::xs) 0=some x:=by
 have:=UY (xs:=x::xs) (k:=0) (by simp);simpa using this
@[simp] theorem atI_1 {α:Type} (x y:α) (xs:List α):atI (x::y::xs) 1=some y:=by
 have:=UY (xs:=x::y::xs) (k:=1) (by simp);simpa using this
@[simp] theorem atI_2 {α:Type} (x y z:α) (xs:List α):atI (x::y::z::xs) 2=some z:=by
 have:=UY (xs:=x::y::z::xs) (k:=2) (by simp);simpa using this
@[simp] theorem atI_3 {α:Type} (x y z u:α) (xs:List α):atI (x::y::z::u::xs) 3=some u:=by
 have:=UY (xs:=x::y::z::u::xs) (k:=3) (by simp);simpa using this
@[simp] theorem atI_4 {α:Type} (x y z u v:α) (xs:List α):atI (x::y::z::u::v::xs) 4=some v:=by
 have:=UY (xs:=x::y::z::u::v::xs) (k:=4) (by simp);simpa using this
theorem Yr {n:Nat} (h:n≤1000):n≤sizeLine:=Nat.le_of_lt (small1000 h)
@[simp] theorem sz_0:0≤sizeLine:=Yr (by decide)
@[simp] theorem sz_1:1≤sizeLine:=Yr (by decide)
@[simp] theorem sz_2:2≤sizeLine:=Yr (by decide)
@[simp] theorem sz_3:3≤sizeLine:=Yr (by decide)
@[simp] theorem sz_4:4≤sizeLine:=Yr (by decide)
@[simp] theorem sz_5:5≤sizeLine:=Yr (by decide)
@[simp] theorem sz_6:6≤sizeLine:=Yr (by decide)
@[simp] theorem e_isi_i (i:Int):pIsi [.int i,.ty "int"]=some (.bl true):=(rfl)
@[simp] theorem e_isi_b (i:Int):pIsi [.int i,.ty "bool"]=some (.bl false):=(rfl)
@[simp] theorem m01a (c:Prop) [Decidable c]:-18446744073709551616 < (if c then (1:Int) else 0):=by split<;>omega
@[simp] theorem m01b (c:Prop) [Decidable c]:(if c then (1:Int) else 0) < 18446744073709551616:=by split<;>omega
@[simp] theorem m2a (x:Int):-18446744073709551616 < x % 40009+7:=by omega
@[simp] theorem m2b (x:Int):x % 40009+7 < 18446744073709551616:=by omega
end
end VS
namespace VS
open PySem L2 SeqAt
def tO (K:PySem.W.Frag) (mg:Str→Option Value) (W:WX) (M:List Nat) (c:CE):TE:=fun σ H Q=>∃C fs env tf,C.K=K∧C.mg=mg∧Good C fs env σ H tf∧Yw W C M tf fs env σ H Q (c env)
def tT (K:PySem.W.Frag) (mg:Str→Option Value) (W:WX) (M:List Nat) (c:CT):TT:=fun σ H Q=>∃C fs env tf,C.K=K∧C.mg=mg∧Good C fs env σ H tf∧JaS W C M tf fs env σ H Q (c env)
def tG (K:PySem.W.Frag) (mg:Str→Option Value) (M Vs:List Nat) (g:D→Env→Option Env):TG:=fun v σ H Q=>∃C fs env tf d fp,C.K=K∧C.mg=mg∧Good C fs env σ H (fp++tf)∧Rep C H d v fp∧QX C M Vs tf fs env σ H Q (g d env)
section
variable {X:Cx} {W:WX} {M M1 M2 M3 M4 V1 V2 V3 Rs R1 R2 R3:List Nat} {e a b c tg:Expr} {es ifs:List Expr} {ca cb cc:CE} {cs src:CA} {ct:CT} {pos p:Pos} {g:D→Env→Option Env}
theorem SO.canon (h:SO X W M e ca):PE X e (tO X.K X.mg W M ca):=by
 obtain⟨t,p,q⟩:=h.go
 exact⟨fun pins s σ H Q I ⟨C,fs,env,tf,h1,h2,G,po⟩=>p.run pins s σ H Q I (q C fs env σ H tf Q ⟨h1,h2⟩ G po)⟩
theorem SG.canon (h:SG X M V1 tg g):PG X tg (tG X.K X.mg M V1 g):=by
 obtain⟨t,p,q⟩:=h.go
 exact⟨fun pins s σ H v u Q I r ⟨C,fs,env,tf,d,fp,h1,h2,G,rr,po⟩=>p.run pins s σ H v u Q I r (q C fs env σ H tf Q d v fp ⟨h1,h2⟩ G rr po)⟩
structure STs (X:Cx) (W:WX) (M:List Nat) (ifs:List Expr) (ct:CT):Prop where
 go:PTs X ifs (tT X.K X.mg W M ct)
def cYes:CT:=fun env=>.ok true env
theorem UK:STs X W [] [] cYes :=
 ⟨⟨fun pins s σ H Q I ⟨C,fs,env,tf,h1,h2,G,po⟩=>pts_nil.run pins s σ H Q I (po fs H G .refl)⟩⟩
theorem Jcb (h:ST X W M c ct):STs X W M [c] ct:=by
 obtain⟨t,p,q⟩:=h.go
 exact⟨⟨fun pins s σ H Q I ⟨C,fs,env,tf,h1,h2,G,po⟩=>(pts_one p).run pins s σ H Q I (q C fs env σ H tf Q ⟨h1,h2⟩ G po)⟩⟩
def Yv (env:Env):List Nat→Env
 | []=>env
 | v::vs=>(Yv env vs).set v none
def ZU (fs:FPs):List Nat→FPs
 | []=>fs
 | v::vs=>(ZU fs vs).set v []
def Uy (env1 env:Env):List Nat→Env
 | []=>env
 | v::vs=>(Uy env1 env vs).set v (env1.getD v none)
theorem ZD {σ:St} {i:Nat}:∀{vs:List Nat},(wipe σ vs)[i]?=if i∈vs then (σ[i]?).map (fun _=>none) else σ[i]?
 | []=>by simp[wipe]
 | v::vs=>by
  unfold wipe
  rw[List.getElem?_set]
  by_cases hv:v=i
  ·subst hv
   rw[if_pos rfl,wipe_length,if_pos (show v∈v::vs by simp)]
   by_cases hl:v < σ.length
   ·rw[if_pos hl];simp[hl]
   ·rw[if_neg hl,List.getElem?_eq_none (by omega)];rfl
  ·rw[if_neg hv,ZD (vs:=vs)]
   have:(i∈v::vs)↔i∈vs:=by simp[Ne.symm hv]
   simp only[this]
theorem Jat {σ:Env} {i:Nat}:∀{vs:List Nat},(Yv σ vs)[i]?=if i∈vs then (σ[i]?).map (fun _=>none) else σ[i]?
 | []=>by simp[Yv]
 | v::vs=>by
  have hl:∀vs:List Nat,(Yv σ vs).length=σ.length:=fun vs=>by
   induction vs with
   | nil=>rfl
   | cons v vs ih=>unfold Yv;rw[List.length_set,ih]
  unfold Yv
  rw[List.getElem?_set]
  by_cases hv:v=i
  ·subst hv
   rw[if_pos rfl,hl,if_pos (show v∈v::vs by simp)]
   by_cases hl:v < σ.length
   ·rw[if_pos hl];simp[hl]
   ·rw[if_neg hl,List.getElem?_eq_none (by omega)];rfl
  ·rw[if_neg hv,Jat (vs:=vs)]
   have:(i∈v::vs)↔i∈vs:=by simp[Ne.symm hv]
   simp only[this]
theorem JbW {σ:FPs}:∀vs:List Nat,(ZU σ vs).length=σ.length
 | []=>rfl
 | v::vs=>by unfold ZU;rw[List.length_set,JbW vs]
theorem Jan {e1 σ:Env}:∀vs:List Nat,(Uy e1 σ vs).length=σ.length
 | []=>rfl
 | v::vs=>by unfold Uy;rw[List.length_set,Jan vs]
theorem JaD {e1 σ:Env} {i:Nat}:∀{vs:List Nat},(Uy e1 σ vs)[i]?=if i∈vs then (σ[i]?).map (fun _=>e1.getD i none) else σ[i]?
 | []=>by simp[Uy]
 | v::vs=>by
  unfold Uy
  rw[List.getElem?_set]
  by_cases hv:v=i
  ·subst hv
   rw[if_pos rfl,Jan,if_pos (show v∈v::vs by simp)]
   by_cases hl:v < σ.length
   ·rw[if_pos hl];simp[hl]
   ·rw[if_neg hl,List.getElem?_eq_none (by omega)];rfl
  ·rw[if_neg hv,JaD (vs:=vs)]
   have:(i∈v::vs)↔i∈vs:=by simp[Ne.symm hv]
   simp only[this]
theorem Zv {fs:FPs} {i:Nat}:∀{vs:List Nat},(ZU fs vs).getD i []=if i∈vs then [] else fs.getD i []
 | []=>by simp[ZU]
 | v::vs=>by
  unfold ZU
  by_cases hv:v=i
  ·subst hv
   rw[if_pos (by simp),List.getD_eq_getElem?_getD,List.getElem?_set]
   rw[if_pos rfl]
   split<;>rfl
  ·rw[List.getD_eq_getElem?_getD,List.getElem?_set,if_neg hv,←List.getD_eq_getElem?_getD,Zv (vs:=vs)]
   have:(i∈v::vs)↔i∈vs:=by simp[Ne.symm hv]
   simp only[this]
theorem wipe_eq {σ3 σ:St} {vs:List Nat} (hl:σ3.length=σ.length) (h:∀i,i∉vs→σ3[i]?=(wipe σ vs)[i]?):wipe σ3 vs=wipe σ vs:=by
 refine List.ext_getElem? fun i=>?_
 by_cases hi:i∈vs
 ·rw[ZD,ZD,if_pos hi,if_pos hi]
  by_cases h1:i < σ.length
  ·simp[h1,hl]
  ·rw[List.getElem?_eq_none (by omega),List.getElem?_eq_none (by omega)]
 ·have:=h i hi
  rw[ZD,if_neg hi,this]
variable {pins:List (Addr × Obj)} {σ σ':St} {H H1 H2 H':Hp} {s:Shared} {C C':Ctx} {fs fs1 fs2:FPs} {env env1 env2:Env} {tf tf' own:List Addr}
theorem Good.sig (G:Good C fs env σ H tf) (hl:σ'.length=σ.length) (h:∀(i:Nat) (d:D),env[i]?=some (some d)→σ'[i]?=σ[i]?):Good C fs env σ' H tf :=
 ⟨by rw[hl];exact G.le,by rw[hl];exact G.lf,fun i d e=>by rw[h i d e];exact G.rep i d e,G.nd,G.own,G.trk,G.fr,G.lk⟩
theorem Good.wipeK (G:Good C fs env σ H tf):∀vs:List Nat,Good C (ZU fs vs) (Yv env vs) σ H tf
 | []=>G
 | v::vs=>(G.wipeK vs).kill v
theorem Good.wipe (G:Good C fs env σ H tf) (vs:List Nat):Good C (ZU fs vs) (Yv env vs) (wipe σ vs) H tf :=
 (G.wipeK vs).sig (wipe_length σ vs) fun i d e=>by
  rw[Jat]at e
  by_cases hi:i∈vs
  ·rw[if_pos hi]at e
   cases h:env[i]?<;>rw[h]at e<;>simp at e
  ·rw[ZD,if_neg hi]
theorem Step.wipe:∀vs:List Nat,Step vs tf fs env H (ZU fs vs) (Yv env vs) H:=fun vs =>
 ⟨fun _ _=>rfl,fun i hi=>by rw[Zv,if_neg hi],fun i hi=>by rw[Jat,if_neg hi],fun _ _ _ _=>rfl,.refl H⟩
theorem Good.back {vs:List Nat} (G:Good C fs env (L2.wipe σ vs) H tf) (hr:∀i,i∈vs→∀d,env1[i]?=some (some d)→∃v,σ[i]?=some (some v)∧Rep C H d v []):Good C (ZU fs vs) (Uy env1 env vs) σ H tf:=by
 have Gw:=G.wipeK vs
 refine⟨?_,?_,fun i d e=>?_,Gw.nd,Gw.own,Gw.trk,Gw.fr,Gw.lk⟩
 ·rw[Jan,G.le,wipe_length]
 ·rw[JbW,G.lf,wipe_length]
 ·rw[JaD]at e
  by_cases hi:i∈vs
  ·rw[if_pos hi]at e
   obtain⟨x,_,e2⟩:=Option.map_eq_some_iff.mp e
   have e3:env1[i]?=some (some d):=by
    rw[List.getD_eq_getElem?_getD]at e2
    cases h:env1[i]? with
    | none=>rw[h]at e2;cases e2
    | some y=>rw[h]at e2;simp at e2;rw[e2]
   obtain⟨v,h1,h2⟩:=hr i hi d e3
   exact⟨v,h1,by rw[Zv,if_pos hi];exact h2⟩
  ·rw[if_neg hi]at e
   obtain⟨v,h1,h2⟩:=G.rep i d e
   rw[ZD,if_neg hi]at h1
   exact⟨v,h1,by rw[Zv,if_neg hi];exact h2⟩
theorem JbE {q:Addr} {o o':HO} (h:H q=some o) (mu:Mutb o):Mono H (upd H q o'):=Mono.upd h mu
theorem Good.updT {q:Addr} {o o':HO} (G:Good C fs env σ H (q::tf)) (h:H q=some o) (mu:Mutb o) (mu':Mutb o'):Good C fs env σ (upd H q o') (q::tf):=by
 have hn:∀i,q∉fs.getD i []:=fun i hi=>G.apartT hi (by simp)
 refine⟨G.le,G.lf,fun i d e=>?_,G.nd,G.own,fun a ha=>?_,fun a o2 e na=>?_,fun a ha=>?_⟩
 ·obtain⟨v,h1,h2⟩:=G.rep i d e
  exact⟨v,h1,h2.keep (fun a ha=>upd_ne fun z=>hn i (z ▸ ha)) (JbE h mu)⟩
 ·by_cases hq:a=q
  ·subst hq;exact⟨o',upd_same,mu'⟩
  ·obtain⟨o2,h1,h2⟩:=G.trk a ha;exact⟨o2,by rw[upd_ne hq];exact h1,h2⟩
 ·have hq:a≠q:=fun z=>by
   subst z
   rcases G.own a (by simp) with z | z
   ·exact na z
   ·rw[z]at e;cases e
  rw[upd_ne hq];exact G.fr a o2 e na
 ·obtain⟨ob,u,e⟩:=G.lk a ha
  have hq:a≠q:=fun z=>by subst z;rw[h]at e;cases e;exact mu
  exact⟨ob,u,by rw[upd_ne hq];exact e⟩
theorem Step.updT {q:Addr} {o o':HO} (G:Good C fs env σ H (q::tf)) (h:H q=some o) (mu:Mutb o):Step [] tf fs env H fs env (upd H q o'):=by
 have nd:=(List.nodup_append.mp G.nd).2.1
 refine⟨fun a ha=>upd_ne fun z=>?_,fun _ _=>rfl,fun _ _=>rfl,fun i _ a ha=>upd_ne fun z=>G.apartT (z ▸ ha) (by simp),JbE h mu⟩
 subst z
 exact(List.nodup_cons.mp nd).1 ha
def UA (vs:List Nat) (g:D→Env→Option Env) (ct:CT) (ce:CE):List D→Env→Option (List D × Env)
 | [],env=>some ([],env)
 | d::ds,env=>match g d env with
  | none=>none
  | some env1=>if env1.length=env.length then (match ct env1 with
   | .ok true env2=>(match ce env2 with
    | .ok y env3=>(UA vs g ct ce ds (Yv env3 vs)).map fun r=>(y::r.1,r.2)
    | _=>none)
   | .ok false env2=>UA vs g ct ce ds (Yv env2 vs)
   | _=>none) else none
def UR (env:Env) (vs:List Nat):Bool:=vs.all fun i=>match env[i]? with
 | some (some d)=>d.imm
 | _=>true
def cLc (src:CA) (vs:List Nat) (g:D→Env→Option Env) (ct:CT) (ce:CE):CE:=fun env=>(src env).bind fun ds env1 =>
 if UR env1 vs=true∧ds.length≤sizeLine then (match UA vs g ct ce ds (Yv env1 vs) with
  | some r=>.ok (.lst .m r.1) (Uy env1 r.2 vs)
  | none=>.err) else .err
abbrev W0:WX:=fun _ _ _ _=>False
theorem JeW {ce:CE} {vs:List Nat} {t:TI} (q:∀C fs env σ H tf Q,C.At X→Good C fs env σ H tf→JcE W C M1 R1 tf fs env σ H Q (src env)→t σ H Q) (hd:djB R1 (vs++(M2++(M3++M4)))=true) (hV:(V2.all fun i=>vs.contains i)=true) :
  ∀C fs env σ H tf Q,C.At X→Good C fs env σ H tf→Yw W C (M1++(vs++(M2++(M3++M4)))) tf fs env σ H Q (cLc src vs g ct ce env)→tLc t (tG X.K X.mg M2 V2 g) (tT X.K X.mg W0 M3 ct) (tO X.K X.mg W0 M4 ce) vs σ H Q:=by
 intro C fs env σ H tf Q hC G po
 show t σ H fun J H1=>_
 refine q C fs env σ H tf _ hC G ?_
 unfold cLc at po
 cases e1:src env with
 | err=>rw[e1]at po;exact po
 | ex x env'=>rw[e1]at po;exact fun cv dd fs' H' G' s=>po cv dd fs' H' G' (s.weak YM fun _ z=>z)
 | ok ds env1 =>
  rw[e1]at po
  intro J fs1 H1 fp own1 G1 s1 src1 i1 Dd hD
  have po1:Yw W C (M1++(vs++(M2++(M3++M4)))) tf fs env σ H Q (if UR env1 vs=true∧ds.length≤sizeLine then (match UA vs g ct ce ds (Yv env1 vs) with
   | some r=>.ok (.lst .m r.1) (Uy env1 r.2 vs)
   | none=>.err) else .err):=po
  by_cases hcl:UR env1 vs=true∧ds.length≤sizeLine
  case neg=>rw[if_neg hcl]at po1;exact po1.elim
  rw[if_pos hcl]at po1
  cases el:UA vs g ct ce ds (Yv env1 vs) with
  | none=>rw[el]at po1;exact po1.elim
  | some r =>
   rw[el]at po1
   obtain⟨all,envF⟩:=r
   have po2:=Yw.step s1 po1
   have dj:=US hd
   have le:=Le.new (o:=.lst []) hD
   have hb:∀i∈vs,∀d,env1[i]?=some (some d)→∃v,σ[i]?=some (some v)∧Rep C H1 d v []:=fun i hi d e=>by
    obtain⟨v,h1,h2⟩:=G1.rep i d e
    have:=(List.all_eq_true.mp hcl.1) i hi
    rw[e]at this
    have z:=h2.imm this
    rw[z]at h2
    exact⟨v,h1,h2⟩
   have sub:∀x∈own1++tf,x∈Dd::(own1++tf):=fun x hx=>List.mem_cons_of_mem _ hx
   refine lc_it (n:=ds.length) src1.walk (fun i H'=>∃fs' env' acc fpa ys ys',Good C fs' env' (wipe σ vs) H' (Dd::(fpa++(own1++tf)))∧H' Dd=some (.lst acc)∧Reps C H' ys acc fpa∧acc.length≤i∧Step (vs++(M2++(M3++M4))) (own1++tf) fs1 env1 H1 fs' env' H'∧UA vs g ct ce (ds.drop i) env'=some (ys',envF)∧all=ys++ys')
    ⟨ZU fs1 vs,Yv env1 vs,[],[],[],all,(G1.new (o:=.lst []) hD trivial).wipe vs,upd_same,⟨rfl,rfl⟩,Nat.le_refl _,?_,by simpa using el,rfl⟩ ?_ ?_ ?_
   ·have:=(Step.grow (M:=[]) G1 le).trans (Step.wipe (fs:=fs1) (env:=env1) (tf:=own1++tf) (H:=upd H1 Dd (.lst [])) vs)
    exact this.weak (fun i hi=>List.mem_append_left _ (by simpa using hi)) fun _ z=>z
   ·rintro i H' hi ⟨fs',env',acc,fpa,ys,ys',G',hD',rs,hl,s',_,_⟩
    exact⟨G'.fr,s'.m,i1.keep s' dj⟩
   ·rintro i x H' H2 hi ⟨fs',env',acc,fpa,ys,ys',G',hD',rs,hl,s',hrun,hall⟩ ⟨le2,d,hd',rd⟩
    have hdrop:ds.drop i=d::ds.drop (i+1):=by
     rw[List.drop_eq_getElem_cons hi]
     obtain⟨_,h⟩:=List.getElem?_eq_some_iff.mp hd'
     rw[h]
    rw[hdrop]at hrun
    unfold UA at hrun
    have G2:=G'.le' le2
    have sA:=s'.trans (Step.grow (M:=[]) (G'.sub (tf':=own1++tf) ((List.sublist_append_right _ _).trans (List.sublist_cons_self _ _))) le2)
    refine⟨C,fs',env',Dd::(fpa++(own1++tf)),d,[],hC.1,hC.2,G2,rd,?_⟩
    cases eg:g d env' with
    | none=>rw[eg]at hrun;cases hrun
    | some e2 =>
     rw[eg]at hrun
     simp only at hrun
     by_cases hlen:e2.length=env'.length
     case neg=>rw[if_neg hlen]at hrun;cases hrun
     rw[if_pos hlen]at hrun
     intro fs3 σ3 H3 G3 s3
     have hw:wipe σ3 vs=wipe σ vs:=by
      refine wipe_eq ?_ fun j hj=>s3.v j fun hj2=>hj ?_
      ·rw[←G3.le,hlen,G2.le,wipe_length]
      ·have:=(List.all_eq_true.mp hV) j hj2
       simpa using this
     refine⟨hw,C,fs3,e2,Dd::(fpa++(own1++tf)),hC.1,hC.2,G3,?_⟩
     have sB:=sA.trans (s3.s.weak (fun _ z=>z) (tf':=own1++tf) fun y hy=>List.mem_cons_of_mem _ (List.mem_append_right _ hy))
     have fin:∀{fs5:FPs} {e5:Env} {H5:Hp} {acc' fpa' ys1 ys2},Good C fs5 e5 σ3 H5 (Dd::(fpa'++(own1++tf)))→H5 Dd=some (.lst acc')→Reps C H5 ys1 acc' fpa'→acc'.length≤i+1→Step (M3++M4) (own1++tf) fs3 e2 H3 fs5 e5 H5→UA vs g ct ce (ds.drop (i+1)) (Yv e5 vs)=some (ys2,envF)→all=ys1++ys2 →
       ∃fs' env' acc fpa ys ys',Good C fs' env' (wipe σ vs) H5 (Dd::(fpa++(own1++tf)))∧H5 Dd=some (.lst acc)∧Reps C H5 ys acc fpa∧acc.length≤i+1∧Step (vs++(M2++(M3++M4))) (own1++tf) fs1 env1 H1 fs' env' H5∧UA vs g ct ce (ds.drop (i+1)) env'=some (ys',envF)∧all=ys++ys':=fun {fs5 e5 H5 acc' fpa' ys1 ys2} G5 h5 r5 l5 s5 h6 h7=>by
      have Gw:=G5.wipe vs
      rw[hw]at Gw
      refine⟨_,_,acc',fpa',ys1,ys2,Gw,h5,r5,l5,?_,h6,h7⟩
      have:=(sB.trans s5).trans (Step.wipe (fs:=fs5) (env:=e5) (tf:=own1++tf) (H:=H5) vs)
      refine this.weak (fun j hj=>?_) fun _ z=>z
      simp only[List.mem_append,List.not_mem_nil,or_false]at hj ⊢
      rcases hj with ((h | h) | h) | h
      ·exact h
      ·exact .inr (.inl h)
      ·exact .inr (.inr h)
      ·exact .inl h
     have r3:Reps C H3 ys acc fpa:=(rs.le le2).keep (fun a ha=>s3.s.t a (by simp[ha])) s3.s.m
     have hD3:H3 Dd=some (.lst acc):=by rw[s3.s.t Dd (by simp)];exact le2 _ _ hD'
     cases et:ct e2 with
     | err=>rw[et]at hrun;cases hrun
     | ex x e3=>rw[et]at hrun;cases hrun
     | ok b e3 =>
      rw[et]at hrun
      intro fs4 H4 G4 s4
      have r4:Reps C H4 ys acc fpa:=r3.keep (fun a ha=>s4.t a (by simp[ha])) s4.m
      have hD4:H4 Dd=some (.lst acc):=by rw[s4.t Dd (by simp)];exact hD3
      have s4':=s4.weak (fun _ z=>z) (tf':=own1++tf) fun y hy=>List.mem_cons_of_mem _ (List.mem_append_right _ hy)
      cases b with
      | false =>
       rw[if_neg (by simp)]
       exact fin G4 hD4 r4 (by omega) (s4'.weak YM fun _ z=>z) hrun hall
      | true =>
       rw[if_pos rfl]
       refine⟨C,fs4,e3,Dd::(fpa++(own1++tf)),hC.1,hC.2,G4,?_⟩
       simp only at hrun
       cases ee:ce e3 with
       | err=>rw[ee]at hrun;cases hrun
       | ex x e4=>rw[ee]at hrun;cases hrun
       | ok y e4 =>
        rw[ee]at hrun
        obtain⟨⟨zs,eF⟩,h1,h2⟩:=Option.map_eq_some_iff.mp hrun
        cases h2
        intro v fs5 H5 fp5 G5 s5 r5
        have hD5:H5 Dd=some (.lst acc):=by rw[s5.t Dd (by simp)];exact hD4
        have ra:Reps C H5 ys acc fpa:=r4.keep (fun a ha=>s5.t a (by simp[ha])) s5.m
        have pm:(Dd::((fpa++fp5)++(own1++tf))).Perm (fp5++(Dd::(fpa++(own1++tf)))):=by
         refine List.Perm.trans (List.Perm.cons _ ?_) (List.perm_middle.symm)
         rw[List.append_assoc]
         exact List.perm_append_comm_assoc _ _ _
        have G6:=G5.perm pm
        have nd6:=(List.nodup_append.mp G6.nd).2.1
        have hnot:Dd∉fpa++fp5:=fun z=>(List.nodup_cons.mp nd6).1 (List.mem_append_left _ z)
        refine⟨acc,hD5,by have:=hcl.2;omega,?_⟩
        have mo:=JbE (o':=.lst (acc++[v])) hD5 trivial
        have kp:∀a∈fpa++fp5,(upd H5 Dd (.lst (acc++[v]))) a=H5 a:=fun a ha=>upd_ne fun z=>hnot (z ▸ ha)
        have G7:=G6.updT (o':=.lst (acc++[v])) hD5 trivial trivial
        refine fin (ys1:=ys++[y]) (ys2:=zs) G7 upd_same (Yu (ra.keep (fun a ha=>kp a (List.mem_append_left _ ha)) mo) ⟨v,[],fp5,[],rfl,r5.keep (fun a ha=>kp a (List.mem_append_right _ ha)) mo,⟨rfl,rfl⟩,by simp⟩) (by simp;omega) ?_ h1 (by rw[hall];simp)
        have s5':=s5.weak (fun _ z=>z) (tf':=own1++tf) fun y hy=>List.mem_cons_of_mem _ (List.mem_append_right _ hy)
        have s6:=Step.updT (o':=.lst (acc++[v])) G6 hD5 trivial
        have s6':=s6.weak (fun _ z=>z) (tf':=own1++tf) fun y hy=>List.mem_append_right _ hy
        have:=(s4'.trans s5').trans s6'
        simpa using this
   ·rintro H' ⟨fs',env',acc,fpa,ys,ys',G',hD',rs,hl,s',hrun,hall⟩
    rw[List.drop_length]at hrun
    unfold UA at hrun
    cases hrun
    rw[List.append_nil]at hall
    subst hall
    have Gb:=G'.back (env1:=env1) fun i hi d e=>by
     obtain⟨v,h1,h2⟩:=hb i hi d e
     exact⟨v,h1,h2.keep (fun _ z=>nomatch z) s'.m⟩
    refine po2 (.ref Dd) _ H' (Dd::fpa) (Gb.sub ?_) ?_ ⟨Dd,acc,[Dd],fpa,rfl,⟨hD',rfl⟩,rs,.inl rfl,rfl⟩
    ·refine List.Sublist.cons₂ _ ?_
     exact(List.Sublist.refl fpa).append (List.sublist_append_right _ _)
    ·have sb:Step vs (own1++tf) fs' envF H' (ZU fs' vs) (Uy env1 envF vs) H' :=
      ⟨fun _ _=>rfl,fun i hi=>by rw[Zv,if_neg hi],fun i hi=>by rw[JaD,if_neg hi],fun _ _ _ _=>rfl,.refl H'⟩
     refine (s'.trans sb).weak (fun j hj=>?_) fun y hy=>List.mem_append_right _ hy
     simp only[List.mem_append]at hj ⊢
     rcases hj with (h | h) | h
     ·exact .inl h
     ·exact .inr h
     ·exact .inl h
theorem ZW {scope:Scope} {own:List (Str × Nat)} (vs:List Nat) {iter elt:Expr} {ce:CE} (hc:X.calm=true) (hN:X.N.Nodup) (hi:SI X W M1 R1 tg iter src) (ok:BlkOk X.N X.env.scope scope own)
  (hg:∀(s:Shared) (H:Hp) (B:Addr) (cl:List (Str × Addr)) (fp:List Addr),SG (X.blk s H scope (compEnvC scope cl B X.env) fp) M2 V2 tg g)
  (ht:∀(s:Shared) (H:Hp) (B:Addr) (cl:List (Str × Addr)) (fp:List Addr),STs (X.blk s H scope (compEnvC scope cl B X.env) fp) W0 M3 ifs ct)
  (he:∀(s:Shared) (H:Hp) (B:Addr) (cl:List (Str × Addr)) (fp:List Addr),SO (X.blk s H scope (compEnvC scope cl B X.env) fp) W0 M4 elt ce)
  (hvs:own.map (·.2)=vs) (hd:djB R1 (vs++(M2++(M3++M4)))=true) (hV:(V2.all fun i=>vs.contains i)=true) (hs:∀x,foldedSetIterable iter X.env x=pure x) :
  SO X W (M1++(vs++(M2++(M3++M4)))) (.ListComp elt [⟨tg,iter,ifs,0⟩] scope pos) (cLc src vs g ct ce):=by
 subst hvs
 obtain⟨t,p,q⟩:=hi.go
 exact⟨tLc t (tG X.K X.mg M2 V2 g) (tT X.K X.mg W0 M3 ct) (tO X.K X.mg W0 M4 ce) (own.map (·.2)),pe_lc (own:=own) hc hN p ok (fun s H B cl fp=>(hg s H B cl fp).canon) (fun s H B cl fp=>(ht s H B cl fp).go) (fun s H B cl fp=>(he s H B cl fp).canon) hs,JeW q hd hV⟩
theorem ss_setLc {scope:Scope} {own:List (Str × Nat)} (vs:List Nat) {i:Nat} {y:Str} {py spos:Pos} {iter elt:Expr} {ce:CE} (hc:X.calm=true) (hN:X.N.Nodup) (hi:SI X W M1 R1 tg iter src) (ok:BlkOk X.N X.env.scope scope own)
  (hg:∀(s:Shared) (H:Hp) (B:Addr) (cl:List (Str × Addr)) (fp:List Addr),SG (X.blk s H scope (compEnvC scope cl B X.env) fp) M2 V2 tg g)
  (ht:∀(s:Shared) (H:Hp) (B:Addr) (cl:List (Str × Addr)) (fp:List Addr),STs (X.blk s H scope (compEnvC scope cl B X.env) fp) W0 M3 ifs ct)
  (he:∀(s:Shared) (H:Hp) (B:Addr) (cl:List (Str × Addr)) (fp:List Addr),SO (X.blk s H scope (compEnvC scope cl B X.env) fp) W0 M4 elt ce)
  (hvs:own.map (·.2)=vs) (hd:djB R1 (vs++(M2++(M3++M4)))=true) (hV:(V2.all fun i=>vs.contains i)=true) (hs:∀x,foldedSetIterable iter X.env x=pure x)
  (hy:X.N[i]?=some y) (hyl:X.env.scope.names.lookup y=some .local) (hsw:swapsWith (.ListComp elt [⟨tg,iter,ifs,0⟩] scope pos) (some (.Name y py)) spos.line X.env=pure true) :
  SS X W ((M1++(vs++(M2++(M3++M4))))++[i]) [i] (.Assign [.Name y py] (.ListComp elt [⟨tg,iter,ifs,0⟩] scope pos) spos) (sAsg (cLc src vs g ct ce) (gSet i)):=by
 subst hvs
 obtain⟨t,p,q⟩:=hi.go
 refine⟨tAsg (tLc t (tG X.K X.mg M2 V2 g) (tT X.K X.mg W0 M3 ct) (tO X.K X.mg W0 M4 ce) (own.map (·.2))) (gName i),ps_setLc (own:=own) hc hN hy hyl hsw p ok (fun s H B cl fp=>(hg s H B cl fp).canon) (fun s H B cl fp=>(ht s H B cl fp).go) (fun s H B cl fp=>(he s H B cl fp).canon) hs,fun C fs env σ H tf E hC G po=>?_⟩
 exact Jdh (gd:=gSet i) (M2:=[i]) (V2:=[i]) hC G (JeW q hd hV) (fun C fs env σ H tf Q d v fp hC G r po=>po _ _ _ (G.put r) (StepS.put G)) po
end
end VS
namespace VS
open PySem L2 SeqAt
section
variable {X:Cx} {W:WX} {M M1 M2 M3 M4 V1 V2 V3 Rs R1 R2 R3:List Nat} {e a b c tg:Expr} {es ifs:List Expr} {ca cb cc:CE} {cs src:CA} {ct:CT} {pos p:Pos} {g:D→Env→Option Env}
variable {pins:List (Addr × Obj)} {σ σ':St} {H H1 H2 H':Hp} {s:Shared} {C C':Ctx}
theorem ZB.lst {ds:List D} {vs:List V} {f:List Addr} {Q:VK} (k:ZB C H (.lst .m ds) Q) (r:Reps C H ds vs f) (hi:imms ds=true) {l:Addr} (hl:H l=none):Q (.ref l) (upd H l (.lst vs)):=by
 have e:=r.imm hi
 subst e
 have le:=Le.new (o:=.lst vs) hl
 exact k (.ref l) _ [l] le ⟨l,vs,[l],[],rfl,⟨upd_same,rfl⟩,r.le le,.inl rfl,rfl⟩ (by simp) fun a ha=>by simp at ha;subst ha;exact hl
theorem ZB.tup {ds:List D} {vs:List V} {f:List Addr} {Q:VK} (k:ZB C H (.tup ds) Q) (r:Reps C H ds vs f) (hi:imms ds=true) {l:Addr} (hl:H l=none):Q (.ref l) (upd H l (.tup vs)):=by
 have e:=r.imm hi
 subst e
 have le:=Le.new (o:=.tup vs) hl
 exact k (.ref l) _ [] le ⟨l,vs,rfl,SqT.of upd_same,r.le le⟩ .nil fun _ z=>nomatch z
theorem Qc:∀{ds es:List D},imms (ds++es)=(imms ds && imms es)
 | [],es=>by simp[imms]
 | d::ds,es=>by rw[List.cons_append,imms,imms,Qc,Bool.and_assoc]
def Jaj:List D→Option D
 | [.lst _ ds]=>if imms ds then some (.tup ds) else none
 | [.tup ds]=>if imms ds then some (.tup ds) else none
 | _=>none
theorem Jcu:ODL X (.type "tuple") Jaj:=by
 refine ODL.of call_tuple_of fun xs H Q ⟨C,ds,fx,d,hC,hF,rs,e,k⟩=>?_
 unfold Jaj at e
 split at e
 ·rename_i g zs
  split at e<;>cases e
  rename_i hi
  obtain⟨v,rfl,r⟩:=YZ rs
  obtain⟨a,vs,f,rfl,q,rz⟩:=Jt hC hF r
  exact⟨a,vs,rfl,.inl ⟨q,fun l hl=>k.tup rz hi hl⟩⟩
 ·rename_i zs
  split at e<;>cases e
  rename_i hi
  obtain⟨v,rfl,r⟩:=YZ rs
  obtain⟨a,vs,rfl,q,rz⟩:=JB hC r
  have ez:=rz.imm hi
  subst ez
  exact⟨a,vs,rfl,.inr ⟨q,k.here ⟨a,vs,rfl,by rw[hC.1];exact q,rz⟩⟩⟩
 ·cases e
theorem add_meets (l:Addr) (items:Array Value) (n:Nat) (b:Addr) (items2:Array Value) (n2:Nat) (sl sl2:Array (Option Value)) (hc0:items.size+items2.size≤sizeLine) :
  Meets (Builtin.«list.__add__» ⟨[.ref l,.ref b],[]⟩) (fun _ R s=>s.heap.get? l=some { cls:=.type "list", dict:=none,data:=.seq items n,slots:=sl }∧s.heap.get? b=some { cls:=.type "list", dict:=none,data:=.seq items2 n2,slots:=sl2 }∧R (.ok (.ret (Value.ref s.heap.objs.size))) { s with heap:=s.heap.push { cls:=Value.type "list", data:=Data.seq (items++items2) },toks:=s.toks }) :=
 .of_wp fun prog w A R s h=>by obtain⟨hp,g,d,tk,os⟩:=s;obtain⟨hl,hb,h⟩:=h;have f3:=PySem.AutoSeq1.sub_list_list;wp_walk using PySem.AutoSeq1.wpAny_loadPart' hl,PySem.AutoSeq1.wpAny_loadPart' hb;exact⟨_,rfl,h⟩
theorem add_listP {prog:Program} {w:World} {A:Around} {E:Value→Shared→Prop} {s:Shared} {l b:Addr} {items items2:Array Value} {Q:Value→Shared→Prop} (hl:PlainL s.heap l items) (hb:PlainL s.heap b items2)
  (h:Q (.ref s.heap.objs.size) { s with heap:=s.heap.push { cls:=.type "list", data:=.seq (items++items2) } }) (hsz:items.size+items2.size≤sizeLine):wpAny (model prog w) A (binaryOp .Add (.ref l) (.ref b)) Q E s:=by
 obtain⟨⟨c1,d1,da1,sl1⟩,n1,e1,a1,a2,a3⟩:=hl
 obtain⟨⟨c2,d2,da2,sl2⟩,n2,e2,b1,b2,b3⟩:=hb
 simp only at a1 a2 a3 b1 b2 b3
 subst a1 a2 a3 b1 b2 b3
 exact PySem.concat_meets ⟨_,e1,rfl⟩ ⟨_,e2,rfl⟩ noFill_list_add seq_list_add F.slot_list_add F.entry_list_add (F.args_list_add_2 _ _) (add_meets l items n1 b items2 n2 sl1 sl2 hsz) ⟨e1,e2,h⟩
def Jb0:D→D→Option D
 | .lst _ xs,.lst _ ys=>if imms xs && imms ys && decide (xs.length+ys.length≤sizeLine) then some (.lst .m (xs++ys)) else none
 | _,_=>none
theorem od_catL:OD2 X (binaryOp .Add) Jb0:=by
 intro pins s σ H x y v u Q I rx ry ⟨C,dx,dy,fx,fy,d,hC,hF,r1,r2,e,k⟩
 unfold Jb0 at e
 split at e
 ·rename_i g xs g' ys
  split at e<;>cases e
  rename_i hi
  simp only[Bool.and_eq_true,decide_eq_true_eq]at hi
  obtain⟨⟨h1,h2⟩,h3⟩:=hi
  obtain⟨a,vs,f,rfl,q,rz⟩:=Jt hC hF r1
  obtain⟨b,ws,f',rfl,q',rz'⟩:=Jt hC hF r2
  cases rx
  cases ry
  obtain⟨its,r,pl,hz⟩:=I.list q
  obtain⟨its2,r',pl2,hz2⟩:=I.list q'
  have l1:=Jh rz
  have l2:=Jh rz'
  have m1:=r.length
  have m2:=r'.length
  refine add_listP pl pl2 ?_ (by rw[List.size_toArray,List.size_toArray];omega)
  have ea:its.toArray++its2.toArray=(its++its2).toArray:=by simp
  rw[ea]
  exact⟨.ref _,_,I.lnew (t':=s.toks) (r.append r') (by rw[List.length_append];omega),rfl,k.lst (Yu rz rz') (by rw[Qc,h1,h2];rfl) I.fresh⟩
 ·cases e
end
end VS
namespace VS
open PySem L2 SeqAt
section
variable {X:Cx} {W:WX} {M M1 M2 M3 M4 V1 V2 V3 Rs R1 R2 R3:List Nat} {e a b c tg:Expr} {es ifs:List Expr} {ca cb cc:CE} {cs src:CA} {ct:CT} {pos p:Pos} {g:D→Env→Option Env}
variable {pins:List (Addr × Obj)} {σ σ':St} {H H1 H2 H':Hp} {s:Shared} {C C':Ctx}
def Jcz:D→D→Option D
 | .tup xs,.tup ys=>if imms xs && imms ys && decide (xs.length+ys.length≤sizeLine) then some (.tup (xs++ys)) else none
 | _,_=>none
theorem od_catT:OD2 X (binaryOp .Add) Jcz:=by
 refine OD2.of op_catA fun x y H Q ⟨C,dx,dy,fx,fy,d,hC,hF,r1,r2,e,k⟩=>?_
 unfold Jcz at e
 split at e
 ·rename_i xs ys
  split at e<;>cases e
  rename_i hi
  simp only[Bool.and_eq_true,decide_eq_true_eq]at hi
  obtain⟨⟨h1,h2⟩,h3⟩:=hi
  obtain⟨a,vs,rfl,q,rz⟩:=JB hC r1
  obtain⟨b,ws,rfl,q',rz'⟩:=JB hC r2
  have l1:=Jh rz
  have l2:=Jh rz'
  have ez:=rz.imm h1
  have ez':=rz'.imm h2
  subst ez ez'
  refine⟨a,b,vs,ws,rfl,rfl,q,q',by omega,fun e0=>?_,fun e0 e1=>?_,fun e0 e1 p hp=>k.tup (Yu rz rz') (by rw[Qc,h1,h2];rfl) hp⟩
  ·subst e0
   cases xs with
   | nil=>exact k.here ⟨b,ws,rfl,by rw[hC.1];exact q',rz'⟩
   | cons x xs=>simp at l1
  ·subst e1
   cases ys with
   | nil=>rw[List.append_nil]at k;exact k.here ⟨a,vs,rfl,by rw[hC.1];exact q,rz⟩
   | cons x xs=>simp at l2
 ·cases e
def JcT:D→D→Option D
 | .str x,.str y=>if x.length+y.length≤sizeLine then some (.str (x++y)) else none
 | _,_=>none
theorem od_catS:OD2 X (binaryOp .Add) JcT:=by
 refine OD2.of op_add_str fun x y H Q ⟨C,dx,dy,fx,fy,d,hC,hF,r1,r2,e,k⟩=>?_
 unfold JcT at e
 split at e
 ·split at e<;>cases e
  rename_i hz
  obtain⟨rfl,_⟩:=r1
  obtain⟨rfl,_⟩:=r2
  exact⟨_,_,rfl,rfl,hz,k.here ⟨rfl,rfl⟩⟩
 ·cases e
def pAdd:D→D→Option D:=orP2 Jd5 (orP2 Jb0 (orP2 Jcz JcT))
theorem JQ:OD2 X (binaryOp .Add) pAdd:=OD2.or od_addI (OD2.or od_catL (OD2.or od_catT od_catS))
def bls:List D→Option (List Bool)
 | []=>some []
 | .bl b::ds=>(bls ds).map (b::·)
 | _=>none
theorem JdT:∀{ds:List D} {bs:List Bool} {vs:List V} {f:List Addr},bls ds=some bs→Reps C H ds vs f→vs=bs.map V.bl
 | [],bs,vs,f,h,r=>by cases h;exact r.1
 | d::ds,bs,vs,f,h,⟨v,vs',f1,f2,e,r,rs,_⟩=>by
  cases d<;>simp only[bls]at h<;>try cases h
  obtain⟨bs',h1,rfl⟩:=Option.map_eq_some_iff.mp h
  rw[e,JdT h1 rs,r.1];rfl
@[simp] theorem bls_bls:∀ns:List Bool,bls (ns.map D.bl)=some ns
 | []=>rfl
 | n::ns=>by simp[bls,bls_bls ns]
theorem JbK {C:Ctx} {H:Hp}:∀ns:List Str,Reps C H (ns.map D.str) (ns.map V.str) []
 | []=>⟨rfl,rfl⟩
 | n::ns=>⟨.str n,ns.map V.str,[],[],rfl,⟨rfl,rfl⟩,JbK ns,rfl⟩
@[simp] theorem JaC:∀ns:List Str,imms (ns.map D.str)=true
 | []=>rfl
 | n::ns=>by simp[JaC ns]
def pAll:List D→Option D
 | [.lst _ ds]=>(bls ds).map fun bs=>.bl (bs.all id)
 | _=>none
theorem Jbu (hc:X.calm=true):ODL X (.builtin "all") pAll:=by
 refine ODL.of (cr_all hc) fun xs H Q ⟨C,ds,fx,d,hC,hF,rs,e,k⟩=>?_
 unfold pAll at e
 split at e
 ·obtain⟨bs,h,rfl⟩:=Option.map_eq_some_iff.mp e
  obtain⟨v,rfl,r⟩:=YZ rs
  obtain⟨a,vs,f,rfl,q,rz⟩:=Jt hC hF r
  have:=JdT h rz
  subst this
  exact⟨a,bs,rfl,q,k.here ⟨rfl,rfl⟩⟩
 ·cases e
def cutD (xs:List D) (lo hi:Option Int):List D:=(xs.drop (HT.sIx xs.length 0 lo)).take (HT.sIx xs.length xs.length hi - HT.sIx xs.length 0 lo)
theorem JbL:∀{ds:List D} {vs:List V} {f:List Addr} (n:Nat),Reps C H ds vs f→∃g1 g2,f=g1++g2∧Reps C H (ds.drop n) (vs.drop n) g2
 | ds,vs,f,0,r=>⟨[],f,rfl,r⟩
 | [],vs,f,n+1,r=>by obtain⟨h1,h2⟩:=r;subst h1;exact⟨[],f,rfl,by simpa using ⟨rfl,h2⟩⟩
 | d::ds,vs,f,n+1,⟨v,vs',f1,f2,e,r,rs,e2⟩=>by
  obtain⟨g1,g2,h1,h2⟩:=JbL n rs
  subst e e2 h1
  exact⟨f1++g1,g2,by simp,by simpa using h2⟩
theorem Jb2:∀{ds:List D} {vs:List V} {f:List Addr} (n:Nat),Reps C H ds vs f→∃g1 g2,f=g1++g2∧Reps C H (ds.take n) (vs.take n) g1
 | ds,vs,f,0,r=>⟨[],f,rfl,rfl,rfl⟩
 | [],vs,f,n+1,r=>by obtain⟨h1,h2⟩:=r;subst h1;exact⟨f,[],by simp,by simpa using ⟨rfl,h2⟩⟩
 | d::ds,vs,f,n+1,⟨v,vs',f1,f2,e,r,rs,e2⟩=>by
  obtain⟨g1,g2,h1,h2⟩:=Jb2 n rs
  subst e e2 h1
  exact⟨f1++g1,g2,by simp,v,vs'.take n,f1,g1,by simp,r,h2,rfl⟩
theorem Jc2 {ds:List D} {vs:List V} (lo hi:Option Int) (r:Reps C H ds vs []):Reps C H (cutD ds lo hi) (cutV vs lo hi) []:=by
 unfold cutD cutV
 rw[Jh r]
 obtain⟨g1,g2,h1,h2⟩:=JbL (HT.sIx vs.length 0 lo) r
 have hg:g2=[]:=(List.append_eq_nil_iff.mp h1.symm).2
 subst hg
 obtain⟨g3,g4,h3,h4⟩:=Jb2 (HT.sIx vs.length vs.length hi - HT.sIx vs.length 0 lo) h2
 have hg:g3=[]:=(List.append_eq_nil_iff.mp h3.symm).1
 subst hg
 exact h4
theorem Qb:∀{ds es:List D},es.Sublist ds→imms ds=true→imms es=true
 | _,_,.slnil,_=>rfl
 | _,_,.cons a h,hi=>Qb h (by simp only[imms,Bool.and_eq_true]at hi;exact hi.2)
 | _,_,.cons₂ a h,hi=>by simp only[imms,Bool.and_eq_true]at hi ⊢;exact⟨hi.1,Qb h hi.2⟩
theorem JcJ (ds:List D) (lo hi:Option Int):(cutD ds lo hi).Sublist ds:=(List.take_sublist _ _).trans (List.drop_sublist _ _)
def pSl:D→Option Int→Option Int→Option D
 | .lst _ ds,lo,hi=>if imms ds then some (.lst .m (cutD ds lo hi)) else none
 | .tup ds,lo,hi=>if imms ds then some (.tup (cutD ds lo hi)) else none
 | .str z,lo,hi=>if z.length≤sizeLine then some (.str (cutS z lo hi)) else none
 | _,_,_=>none
def rSlD (X:Cx):V→Option Int→Option Int→Hp→VK→Prop:=fun x lo hi H Q=>rSlL X.K x lo hi H Q∨(rSlA X.K x lo hi H Q∨rSlS x lo hi H Q)
theorem sl_any:SlR X (rSlD X):=sl_list.or (sl_tupA.or sl_str)
theorem sl_ok {d r:D} {v:V} {fp:List Addr} {lo hi:Option Int} {Q:VK} (hC:C.At X) (hF:Fr C H) (rp:Rep C H d v fp) (h:pSl d lo hi=some r) (k:ZB C H r Q):rSlD X v lo hi H Q:=by
 unfold pSl at h
 split at h
 ·rename_i g ds
  split at h<;>cases h
  rename_i hi'
  obtain⟨a,vs,f,rfl,q,rz⟩:=Jt hC hF rp
  have:=rz.imm hi';subst this
  exact .inl ⟨a,vs,rfl,q,fun p hp=>k.lst (Jc2 lo hi rz) (Qb (JcJ _ _ _) hi') hp⟩
 ·rename_i ds
  split at h<;>cases h
  rename_i hi'
  obtain⟨a,vs,rfl,q,rz⟩:=JB hC rp
  have:=rz.imm hi';subst this
  refine .inr (.inl ⟨a,vs,rfl,q,fun hw=>?_,fun hw p hp=>k.tup (Jc2 lo hi rz) (Qb (JcJ _ _ _) hi') hp⟩)
  have hl:=Jh rz
  have e:cutD ds lo hi=ds:=by
   unfold cutD
   rw[hl,hw.1,hw.2,←hl];simp
  rw[e]at k
  exact k.here ⟨a,vs,rfl,by rw[hC.1];exact q,rz⟩
 ·rename_i z
  split at h<;>cases h
  rename_i hz
  obtain⟨rfl,_⟩:=rp
  exact .inr (.inr ⟨z,rfl,hz,k.here ⟨rfl,rfl⟩⟩)
 ·cases h
structure SPt (X:Cx) (W:WX) (M:List Nat) (e:Option Expr) (c:Env→R (Option Int)):Prop where
 go:∃t,PO X e t∧∀C fs env σ H tf Q,C.At X→Good C fs env σ H tf→(match c env with
  | .ok o env'=>∀fs' H',Good C fs' env' σ H' tf→Step M tf fs env H fs' env' H'→Q o H'
  | .ex x env'=>∀cv dd fs' H',Good C fs' env' σ H' tf→Step M tf fs env H fs' env' H'→ExIs C x cv dd H'→W cv dd σ H'
  | .err=>False)→t σ H Q
def pNo:Env→R (Option Int):=fun env=>.ok none env
def pAt (c:CE):Env→R (Option Int):=fun env=>(c env).bind fun d env=>match d with
 | .int i=>.ok (some i) env
 | _=>.err
theorem Qu:SPt X W [] none pNo:=⟨tNoPart,po_none,fun C fs env σ H tf Q hC G po=>po fs H G .refl⟩
theorem ZT (h:SB X W M Rs e ca):SPt X W M (some e) (pAt ca):=by
 obtain⟨t,p,q⟩:=h.go
 refine⟨tPart t,po_some p,fun C fs env σ H tf Q hC G po=>?_⟩
 show t σ H fun x H1=>∃i,x=.int i∧Q (some i) H1
 refine q C fs env σ H tf _ hC G ?_
 unfold pAt at po
 cases e1:ca env with
 | err=>rw[e1]at po;exact po
 | ex x env'=>rw[e1]at po;exact po
 | ok d env' =>
  rw[e1]at po
  intro v fs' H' fp own G' s r i1
  cases d with
  | int i=>obtain⟨rfl,_⟩:=r;exact⟨i,rfl,po fs' H' G'.drop s⟩
  | _=>exact po.elim
def cSl (ca:CE) (lo hi:Env→R (Option Int)):CE:=fun env=>(ca env).bind fun d env=>(lo env).bind fun l env=>(hi env).bind fun h env=>R.of (pSl d l h) env
theorem Ud {p2:Pos} {lo hi:Option Expr} {cl ch:Env→R (Option Int)} (ha:SB X W M1 R1 a ca) (hl:SPt X W M2 lo cl) (hh:SPt X W M3 hi ch) (hd:djB R1 (M2++M3)=true):SO X W (M1++(M2++M3)) (.Subscript a (.Slice lo hi none p2) pos) (cSl ca cl ch):=by
 obtain⟨t,p,q⟩:=ha.go
 obtain⟨t2,p2',q2⟩:=hl.go
 obtain⟨t3,p3,q3⟩:=hh.go
 refine⟨tSl (rSlD X) t t2 t3,pe_slice sl_any p p2' p3,fun C fs env σ H tf Q hC G po=>?_⟩
 show t σ H fun x H1=>t2 σ H1 fun l H2=>t3 σ H2 fun u H3=>rSlD X x l u H3 Q
 have dj:=US hd
 refine q C fs env σ H tf _ hC G ?_
 unfold cSl at po
 cases e1:ca env with
 | err=>rw[e1]at po;exact po
 | ex x env'=>rw[e1]at po;exact fun cv dd fs' H' G' s=>po cv dd fs' H' G' (s.weak YM fun _ z=>z)
 | ok d env1 =>
  rw[e1]at po
  intro v fs1 H1 fp own G1 s1 r1 i1
  have po1:=Yw.step s1 po
  refine q2 C fs1 env1 σ H1 (own++tf) _ hC G1 ?_
  simp only[R.bind]at po1
  cases e2:cl env1 with
  | err=>rw[e2]at po1;exact po1
  | ex x env'=>rw[e2]at po1;exact fun cv dd fs' H' G' s=>po1 cv dd fs' H' G'.drop (s.weak YM fun x hx=>List.mem_append_right _ hx)
  | ok l env2 =>
   rw[e2]at po1
   intro fs2 H2 G2 s2
   have s2':=s2.weak (fun _ z=>z) (tf':=tf) fun x hx=>List.mem_append_right _ hx
   have po2:=Yw.step s2' po1
   refine q3 C fs2 env2 σ H2 (own++tf) _ hC G2 ?_
   simp only at po2
   cases e3:ch env2 with
   | err=>rw[e3]at po2;exact po2
   | ex x env'=>rw[e3]at po2;exact fun cv dd fs' H' G' s=>po2 cv dd fs' H' G'.drop (s.weak (fun _ z=>z) fun x hx=>List.mem_append_right _ hx)
   | ok h env3 =>
    rw[e3]at po2
    intro fs3 H3 G3 s3
    have s23:=s2.trans s3
    have r3:Rep C H3 d v fp:=r1.keep (i1.keep s23 dj) s23.m
    simp only[R.of]at po2
    cases e4:pSl d l h with
    | none=>rw[e4]at po2;exact po2.elim
    | some r =>
     rw[e4]at po2
     have s3':=s3.weak (fun _ z=>z) (tf':=tf) fun x hx=>List.mem_append_right _ hx
     exact sl_ok hC G3.fr r3 e4 (Uc (own:=own) G3 s3' po2)
end
end VS
namespace VS
open PySem L2 SeqAt RZ
section
variable {X:Cx} {W:WX} {M M1 M2 M3 M4 V1 V2 V3 Rs R1 R2 R3:List Nat} {e a b c tg:Expr} {es ifs:List Expr} {ca cb cc:CE} {cs src:CA} {ct:CT} {pos p:Pos} {g:D→Env→Option Env}
variable {pins:List (Addr × Obj)} {σ σ':St} {H H1 H2 H':Hp} {s:Shared} {C C':Ctx}
theorem pi_or {t1 t2:TI} (h1:PI X tg e t1) (h2:PI X tg e t2):PI X tg e (fun σ H R=>t1 σ H R∨t2 σ H R) :=
 ⟨fun pins s σ H R I h=>h.elim (h1.run pins s σ H R I) (h2.run pins s σ H R I)⟩
def JI (c:CE):CA:=fun env=>(c env).bind fun d env=>match d with
 | .lst _ ds=>if imms ds then .ok ds env else .err
 | .tup ds=>if imms ds then .ok ds env else .err
 | _=>.err
theorem YR (h:SB X W M Rs e ca):SI X W M Rs tg e (JI ca):=by
 obtain⟨t,p,q⟩:=(si_list (tg:=tg) h).go
 obtain⟨t2,p2,q2⟩:=(si_tup (tg:=tg) h).go
 refine⟨_,pi_or p p2,fun C fs env σ H tf Q hC G po=>?_⟩
 unfold JI at po
 cases e1:ca env with
 | err=>rw[e1]at po;exact po.elim
 | ex x env' =>
  refine .inl (q C fs env σ H tf Q hC G ?_)
  unfold iSeq
  rw[e1]at po ⊢
  exact po
 | ok d env1 =>
  rw[e1]at po
  cases d with
  | lst g ds =>
   refine .inl (q C fs env σ H tf Q hC G ?_)
   unfold iSeq
   rw[e1]
   exact po
  | tup ds =>
   refine .inr (q2 C fs env σ H tf Q hC G ?_)
   unfold Jeh
   rw[e1]
   exact po
  | _=>exact po.elim
end
end VS
namespace VS
open PySem L2 SeqAt
section
variable {X:Cx} {W:WX} {M M1 M2 M3 M4 V1 V2 V3 Rs R1 R2 R3:List Nat} {e a b c tg:Expr} {es ifs:List Expr} {ca cb cc:CE} {cs src:CA} {ct:CT} {pos p:Pos} {g:D→Env→Option Env}
variable {pins:List (Addr × Obj)} {σ σ':L2.St} {H H1 H2 H':Hp} {s:Shared} {C C':Ctx}
theorem Qg:∀{ds:List D},imms ds=ds.all D.imm
 | []=>rfl
 | d::ds=>by rw[imms,List.all_cons,Qg]
def Jbl:D→D→Option D
 | .str x,.str y=>if (y.length == 0)=false∧x.length+2≤sizeLine then some (.lst .m ((Txt.split x y).map D.str)) else none
 | _,_=>none
def Jcg (ca cb:CE):CE:=fun env=>(ca env).bind fun d env=>match d with
 | .str x=>(cb env).bind fun y env=>R.of (Jbl (.str x) y) env
 | _=>.err
theorem so_split {o:Expr} {apos:Pos} (ha:SB X W M1 R1 o ca) (hb:SB X W M2 R2 e cb) (hs:starEach [e] X.env=[(false,eval e X.env)]) (hbase:attributeBase o "split" X.env (eval o X.env)=eval o X.env) (hline:(apos.endLine == pos.line)=true) :
  SO X W (M1++M2) (.Call (.Attribute o "split" apos) [e] [] pos) (Jcg ca cb):=by
 obtain⟨t,p,q⟩:=ha.go
 obtain⟨t2,p2,q2⟩:=hb.go
 refine⟨_,pe_splitAny p p2 hs hbase hline,fun C fs env σ H tf Q hC G po=>?_⟩
 show t σ H fun x H1=>(∃a,x=.str a)∧t2 σ H1 fun y H2=>rSplitAny x [y] H2 Q
 refine q C fs env σ H tf _ hC G ?_
 unfold Jcg at po
 cases e1:ca env with
 | err=>rw[e1]at po;exact po
 | ex x env'=>rw[e1]at po;exact fun cv dd fs' H' G' s=>po cv dd fs' H' G' (s.weak YM fun _ z=>z)
 | ok d env1 =>
  rw[e1]at po
  intro v fs1 H1 fp own G1 s1 r1 i1
  have po1:=Yw.step s1 po
  simp only[R.bind]at po1
  cases d with
  | str x =>
   obtain⟨rfl,_⟩:=r1
   refine⟨⟨x,rfl⟩,q2 C fs1 env1 σ H1 tf _ hC G1.drop ?_⟩
   simp only at po1
   cases e2:cb env1 with
   | err=>rw[e2]at po1;exact po1
   | ex x env'=>rw[e2]at po1;exact po1
   | ok y env2 =>
    rw[e2]at po1
    intro w fs2 H2 f2 own2 G2 s2 r2 _
    simp only[R.of]at po1
    cases e3:Jbl (.str x) y with
    | none=>rw[e3]at po1;exact po1.elim
    | some z =>
     rw[e3]at po1
     unfold Jbl at e3
     split at e3
     ·rename_i x' y' ex
      cases ex
      split at e3<;>cases e3
      rename_i hz
      obtain⟨rfl,_⟩:=r2
      refine .inl ⟨x,y',rfl,rfl,hz.1,hz.2,fun l hl=>?_⟩
      have k:=Uc (own:=own2) G2 s2 po1
      exact k.lst (JbK _) (JaC _) hl
     ·cases e3
  | _=>exact po1.elim
def putP (kd:List Key × List D) (k:Key) (x:D):List Key × List D:=match idxK kd.1 k with
 | some j=>(kd.1,kd.2.set j x)
 | none=>(kd.1++[k],kd.2++[x])
def Zb:List D→Option (List (Key × D))
 | []=>some []
 | .tup [k,x]::ds=>k.key.bind fun k=>(Zb ds).map fun r=>(k,x)::r
 | _=>none
def mkD (ps:List (Key × D)):List Key × List D:=ps.foldl (fun acc p=>putP acc p.1 p.2) ([],[])
def Jbf:List D→Option D
 | [.lst _ ds]=>if imms ds then (Zb ds).map fun ps=>.dct .m (mkD ps).1 (mkD ps).2 else none
 | _=>none
theorem put_rep {kvs:List (Key × V)} {kd:List Key × List D} {k:Key} {x:D} {v:V} (h1:kvs.map (·.1)=kd.1) (hn:kd.1.Nodup) (hr:Reps C H kd.2 (kvs.map (·.2)) []) (rx:Rep C H x v []) :
  (putK kvs k v).map (·.1)=(putP kd k x).1∧(putP kd k x).1.Nodup∧Reps C H (putP kd k x).2 ((putK kvs k v).map (·.2)) []:=by
 unfold putP
 cases q:idxK kd.1 k with
 | some j =>
  have q':=q
  rw[←h1]at q'
  have e1:=Jay (v:=v) (by rw[h1];exact hn) q'
  have hj:=(JaU q').2
  have hjd:j < kd.2.length:=by rw[Jh hr];simpa using hj
  obtain⟨w',g1,fo,g2,k1,k2,k3,k4⟩:=QS hr (j:=j) (x:=kd.2[j]) (by simp[hjd])
  have z:=List.append_eq_nil_iff.mp k3.symm
  have z2:=List.append_eq_nil_iff.mp z.1
  obtain⟨⟨rfl,rfl⟩,rfl⟩:=And.intro z2 z.2
  refine⟨?_,hn,?_⟩
  ·rw[e1,JaT,h1]
   have:=Jbj q'
   rw[List.getElem?_map]at this;exact this
  ·rw[e1,JaM]
   exact k4 H x v [] (.refl H) (fun _ z=>nomatch z) rx
 | none =>
  have q':=q
  rw[←h1]at q'
  have e1:=putK_new v (JbH q')
  refine⟨by rw[e1,List.map_append,h1];rfl,?_,?_⟩
  ·refine List.nodup_append.mpr ⟨hn,by simp,fun x hx y hy e=>?_⟩
   simp at hy;subst hy;subst e
   exact Jb7 q hx
  ·rw[e1,List.map_append]
   exact Yu (f:=[]) (g:=[]) hr ⟨v,[],[],[],rfl,rx,⟨rfl,rfl⟩,rfl⟩
theorem Jas (hC:C.At X):∀{ds:List D} {ps:List (Key × D)} {vs:List V},Zb ds=some ps→imms ds=true→Reps C H ds vs []→∃(as:List Addr) (kvs:List (Key × V)),vs=as.map V.ref∧Paired (fun p kv=>SqT X.K H p [kV kv.1,kv.2]) as kvs ∧
  kvs.map (·.1)=ps.map (·.1)∧Reps C H (ps.map (·.2)) (kvs.map (·.2)) []
 | [],ps,vs,h,_,⟨h1,_⟩=>by cases h;subst h1;exact⟨[],[],rfl,.nil,rfl,rfl,rfl⟩
 | d::ds,ps,vs,h,hi,⟨v,vs',f1,f2,e,r,rs,e2⟩=>by
  obtain⟨z1,z2⟩:=List.append_eq_nil_iff.mp e2.symm
  subst e z1 z2
  unfold Zb at h
  split at h
  ·rename_i he;cases he
  ·rename_i k x ds' he
   cases he
   obtain⟨ky,h1,h2⟩:=Option.bind_eq_some_iff.mp h
   obtain⟨ps',h3,rfl⟩:=Option.map_eq_some_iff.mp h2
   rw[imms,Bool.and_eq_true]at hi
   obtain⟨as,kvs,q1,q2,q3,q4⟩:=Jas hC h3 hi.2 rs
   obtain⟨ad,ws,rfl,n,rw⟩:=r
   obtain⟨u1,us,g1,g2,ew,ru,rus,eg⟩:=rw
   obtain⟨u2,us2,g3,g4,ew2,ru2,⟨ew3,eg3⟩,eg2⟩:=rus
   obtain⟨y1,y2⟩:=List.append_eq_nil_iff.mp eg.symm
   subst y1 y2
   obtain⟨y3,y4⟩:=List.append_eq_nil_iff.mp eg2.symm
   subst y3 ew3 ew2 ew q1
   have ek:=Jcp h1 ru
   subst ek
   exact⟨ad::as,(ky,u2)::kvs,rfl,.cons (by rw[←hC.1];exact n) q2,by simp[q3],u2,_,[],[],rfl,ru2,q4,rfl⟩
  ·cases h
theorem Jam:∀{ps:List (Key × D)} {kvs acc:List (Key × V)} {kd:List Key × List D},kvs.map (·.1)=ps.map (·.1)→Reps C H (ps.map (·.2)) (kvs.map (·.2)) []→acc.map (·.1)=kd.1→kd.1.Nodup→Reps C H kd.2 (acc.map (·.2)) [] →
  (mergeK acc kvs).map (·.1)=(ps.foldl (fun acc p=>putP acc p.1 p.2) kd).1∧(ps.foldl (fun acc p=>putP acc p.1 p.2) kd).1.Nodup∧Reps C H (ps.foldl (fun acc p=>putP acc p.1 p.2) kd).2 ((mergeK acc kvs).map (·.2)) []
 | [],kvs,acc,kd,h1,h2,h3,h4,h5=>by
  cases kvs with
  | nil=>exact⟨h3,h4,h5⟩
  | cons a b=>cases h1
 | (k,x)::ps,kvs,acc,kd,h1,h2,h3,h4,h5=>by
  cases kvs with
  | nil=>cases h1
  | cons kv kvs =>
   obtain⟨k',v⟩:=kv
   simp only[List.map_cons,List.cons.injEq]at h1
   obtain⟨hk,h1⟩:=h1
   subst hk
   obtain⟨v',vs',f1,f2,e,r,rs,e2⟩:=h2
   cases e
   obtain⟨z1,z2⟩:=List.append_eq_nil_iff.mp e2.symm
   subst z1 z2
   obtain⟨p1,p2,p3⟩:=put_rep (k:=k') (x:=x) (v:=v) h3 h4 h5 r
   exact Jam (ps:=ps) (kvs:=kvs) (acc:=putK acc k' v) (kd:=putP kd k' x) h1 rs p1 p2 p3
theorem od_dictP (hc:X.calm=true):ODL X (.type "dict") Jbf:=by
 refine ODL.of (call_dictP hc) fun xs H Q ⟨C,ds,fx,d,hC,hF,rs,e,k⟩=>?_
 unfold Jbf at e
 split at e
 ·rename_i g zs
  split at e
  case isFalse=>cases e
  rename_i hi
  obtain⟨ps,h1,rfl⟩:=Option.map_eq_some_iff.mp e
  obtain⟨v,rfl,r⟩:=YZ rs
  obtain⟨a,vs,f,rfl,q,rz⟩:=Jt hC hF r
  have ez:=rz.imm hi
  subst ez
  obtain⟨as,kvs,rfl,q2,q3,q4⟩:=Jas hC h1 hi rz
  obtain⟨m1,m2,m3⟩:=Jam (acc:=[]) (kd:=([],[])) q3 q4 rfl .nil ⟨rfl,rfl⟩
  refine⟨a,as,kvs,rfl,q,q2,fun p hp=>?_⟩
  have le:=Le.new (o:=.dK (mergeK [] kvs)) hp
  exact k (.ref p) _ [p] le ⟨p,_,[p],[],rfl,⟨upd_same,rfl⟩,⟨m1,m2⟩,m3.le le,.inl rfl,rfl⟩ (by simp) fun a ha=>by simp at ha;subst ha;exact hp
 ·cases e
end
end VS
namespace VS
open PySem L2 SeqAt PySem.Spec PyProof.Rows
section
variable {X:Cx} {W:WX} {M M1 M2 M3 M4 V1 V2 V3 Rs R1 R2 R3:List Nat} {e a b c tg o:Expr} {es ifs:List Expr} {ca cb cc:CE} {cs src:CA} {ct:CT} {pos p apos cpos:Pos} {cl:CL} {i:Nat}
theorem JdK (ho:SL X W i M1 o cl) (ha:SAO X W M2 (e::es) cs)
  (hi:djB [i] M2=true) (hbase:attributeBase o "append" X.env (eval o X.env)=eval o X.env)
  (hfew:((backTo cpos (starEach (e::es) X.env)).all (fun x=>!x.1) && (backToKw cpos (keywordEach [] X.env)).all (fun x=>x.1.isSome)
   && decide ((e::es).length+([]:List Keyword).length+(if ([]:List Keyword).isEmpty then 0 else 1) < 30))=true)
  (hline:(apos.endLine == cpos.line)=true) (hs:starEach (e::es) X.env=(false,eval e X.env)::starEach es X.env) (hplain:(backTo cpos (starEach es X.env)).any (·.1)=false) :
  SO X W (M1++(M2++[i])) (.Call (.Attribute o "append" apos) (e::es) [] cpos) (cMut i kdL Qn cl cs) :=
 Jel mu_append PySem.F.plainAttrs_list PySem.F.slot_list_append PySem.F.type_list_append mt_append ho ha hi hbase hfew hline hs hplain
end
end VS
namespace VS
open PySem L2 SeqAt
section
variable {α β:Type} (env:Env) (i j:Nat) (c ca cb cc:CE) (cs:CA) (ct:CT) (ta tb:CT) (d:D) (p q:D→D→Option D) (p1:D→Option D) (pl:List D→Option D) (s1 s2:CS) (g:D→Env→Option Env)
@[simp] theorem e_addI (i j:Int):pAdd (.int i) (.int j)=some (.int (i+j)):=by simp[pAdd,orP2,pI]
@[simp] theorem e_addT (xs ys:List D):pAdd (.tup xs) (.tup ys)=if imms xs && imms ys && decide (xs.length+ys.length≤sizeLine) then some (.tup (xs++ys)) else none:=by
 simp[pAdd,orP2,pI,Jb0,Jcz,JcT]
@[simp] theorem e_addL (g g':Fl) (xs ys:List D):pAdd (.lst g xs) (.lst g' ys)=if imms xs && imms ys && decide (xs.length+ys.length≤sizeLine) then some (.lst .m (xs++ys)) else none:=by
 simp[pAdd,orP2,pI,Jb0,Jcz,JcT]
@[simp] theorem e_pno:pNo env=.ok none env:=(rfl)
@[simp] theorem e_pat:pAt ca env=(ca env).bind fun d env=>match d with
 | .int i=>.ok (some i) env
 | _=>.err:=(rfl)
@[simp] theorem e_sl (lo hi:Env→R (Option Int)):cSl ca lo hi env=(ca env).bind fun d env=>(lo env).bind fun l env=>(hi env).bind fun h env=>R.of (pSl d l h) env:=(rfl)
@[simp] theorem e_sl1 (ds:List D) (lo hi:Option Int):pSl (.tup ds) lo hi=if imms ds then some (.tup (cutD ds lo hi)) else none:=(rfl)
@[simp] theorem e_sl2 (g:Fl) (ds:List D) (lo hi:Option Int):pSl (.lst g ds) lo hi=if imms ds then some (.lst .m (cutD ds lo hi)) else none:=(rfl)
@[simp] theorem e_split:Jcg ca cb env=(ca env).bind fun d env=>match d with
 | .str x=>(cb env).bind fun y env=>R.of (Jbl (.str x) y) env
 | _=>.err:=(rfl)
@[simp] theorem e_lc (vs:List Nat) (ct:CT) (ce:CE) (src:CA):cLc src vs g ct ce env=(src env).bind fun ds env1 =>
 if UR env1 vs=true∧ds.length≤sizeLine then (match UA vs g ct ce ds (Yv env1 vs) with
  | some r=>.ok (.lst .m r.1) (Uy env1 r.2 vs)
  | none=>.err) else .err:=(rfl)
@[simp] theorem Qf:JI c env=(c env).bind fun d env=>match d with
 | .lst _ ds=>if imms ds then .ok ds env else .err
 | .tup ds=>if imms ds then .ok ds env else .err
 | _=>.err:=(rfl)
@[simp] theorem e_rng1:Zj cs env=(cs env).bind fun ds env=>R.of (Za ds) env:=(rfl)
@[simp] theorem e_wipe0:Yv env []=env:=(rfl)
@[simp] theorem e_wipe1 (v:Nat) (vs:List Nat):Yv env (v::vs)=(Yv env vs).set v none:=(rfl)
@[simp] theorem e_back0 (e1:Env):Uy e1 env []=env:=(rfl)
@[simp] theorem e_back1 (e1:Env) (v:Nat) (vs:List Nat):Uy e1 env (v::vs)=(Uy e1 env vs).set v (e1.getD v none):=(rfl)
@[simp] theorem e_clear0:UR env []=true:=(rfl)
@[simp] theorem e_clear1 (v:Nat) (vs:List Nat):UR env (v::vs)=((match env[v]? with
 | some (some d)=>d.imm
 | _=>true) && UR env vs):=(rfl)
@[simp] theorem e_yes:cYes env=.ok true env:=(rfl)
@[simp] theorem e_gtup (n:Nat) (gs:List D→Env→Option Env) (ds:List D):UF n gs (.tup ds) env=if ds.length=n then gs ds env else none:=by
 first | rfl | simp[UF]
@[simp] theorem e_gnil:UO [] env=some env:=(rfl)
@[simp] theorem e_gcons (gs:List D→Env→Option Env) (ds:List D):JA g gs (d::ds) env=(g d env).bind fun env=>gs ds env:=(rfl)
@[simp] theorem e_eqS (i j:Str):pEq (.str i) (.str j)=some (.bl (i == j)):=(rfl)
@[simp] theorem e_neS (i j:Str):pNe (.str i) (.str j)=some (.bl (!(i == j))):=(rfl)
@[simp] theorem e_neB (i j:Bool):pNe (.bl i) (.bl j)=some (.bl (!(i == j))):=(rfl)
@[simp] theorem e_eqB (i j:Bool):pEq (.bl i) (.bl j)=some (.bl (i == j)):=(rfl)
@[simp] theorem e_tup1 (g:Fl) (ds:List D):Jaj [.lst g ds]=if imms ds then some (.tup ds) else none:=(rfl)
@[simp] theorem e_tup2 (ds:List D):Jaj [.tup ds]=if imms ds then some (.tup ds) else none:=(rfl)
@[simp] theorem e_mut (kd:D→Bool) (mp:D→List D→Option (D × D)) (cl:CL):cMut i kd mp cl cs env=(cl env).bind fun dF env=>if kd dF.1 then (cs env).bind fun ds env=>match mp dF.1 ds with
 | some dr=>.ok dr.2 (env.set i (some (dF.2 dr.1)))
 | none=>.err
 else .err:=(rfl)
@[simp] theorem e_lvar:lVar i env=match env[i]? with
 | some (some d)=>.ok (d,id) env
 | _=>.err:=(rfl)
@[simp] theorem e_kdL (ds:List D):kdL (.lst .m ds)=true:=(rfl)
@[simp] theorem e_app (ds:List D) (x:D):Qn (.lst .m ds) [x]=if ds.length < sizeLine then some (.lst .m (ds++[x]),.non) else none:=(rfl)
@[simp] theorem QD (src:CA) (body:CS):sFor src g body env=match src env with
 | .ok ds env=>YJ g body ds env
 | .ex x env=>.ex x env
 | .err=>.err:=(rfl)
theorem Jdd {g:D→Env→Option Env} {body:CS} {d:D} {ds:List D} {env env1 env2:Env} (h1:g d env=some env1) (h2:body env1=.nx env2):YJ g body (d::ds) env=YJ g body ds env2:=by simp[YJ,h1,h2]
theorem for_rt {g:D→Env→Option Env} {body:CS} {d r:D} {ds:List D} {env env1 env2:Env} (h1:g d env=some env1) (h2:body env1=.rt r env2):YJ g body (d::ds) env=.rt r env2:=by simp[YJ,h1,h2]
end
end VS
namespace VS
open PySem L2 SeqAt
theorem JaA {vs:List Nat} {g:D→Env→Option Env} {ce:CE} {env:Env} {y:D→D}:∀{ds:List D},(∀d∈ds,∃env1,g d env=some env1∧env1.length=env.length∧ce env1=.ok (y d) env1∧Yv env1 vs=env)→UA vs g cYes ce ds env=some (ds.map y,env)
 | [],_=>rfl
 | d::ds,h=>by
  obtain⟨env1,h1,h2,h3,h4⟩:=h d (by simp)
  have ih:=JaA (vs:=vs) (g:=g) (ce:=ce) (env:=env) (y:=y) (ds:=ds) fun d hd=>h d (by simp[hd])
  unfold UA
  simp[h1,h2,h3,h4,ih]
@[simp] theorem Jbp (g:Fl) (ns:List Bool):pAll [.lst g (ns.map D.bl)]=some (.bl (ns.all id)):=by simp[pAll]
theorem JeR {vs:List Nat} {g:D→Env→Option Env} {ce:CE} {Iv:Env→Prop} {Y:D→D→Prop}:∀{ds:List D} {env:Env},Iv env →
  (∀d∈ds,∀env,Iv env→∃env1 y env2,g d env=some env1∧env1.length=env.length∧ce env1=.ok y env2∧Y d y∧Iv (Yv env2 vs)) →
  ∃ys env',UA vs g cYes ce ds env=some (ys,env')∧Iv env'∧Paired Y ds ys
 | [],env,h0,_=>⟨[],env,rfl,h0,.nil⟩
 | d::ds,env,h0,h=>by
  obtain⟨env1,y,env2,h1,h2,h3,h4,h5⟩:=h d (by simp) env h0
  obtain⟨ys,env',k1,k2,k3⟩:=JeR (vs:=vs) (g:=g) (ce:=ce) (Iv:=Iv) (Y:=Y) (ds:=ds) h5 fun d hd=>h d (by simp[hd])
  refine⟨y::ys,env',?_,k2,.cons h4 k3⟩
  unfold UA
  simp[h1,h2,h3,k1]
theorem JdH (j:Int) (h0:-(2 ^ 62)≤j) (h:j < 2 ^ 62):Za [.int j]=some ((List.range j.toNat).map fun i=>.int (i:Nat)):=if_pos ⟨h0,h⟩
theorem JcL:∀{ks:List Key} {ds:List D} {k:Key} {j:Nat},idxK ks k=some j→ks.length=ds.length→Uq ks ds k=ds[j]?∧j < ds.length
 | [],ds,k,j,h,_=>by cases h
 | k0::ks,[],k,j,h,hl=>by cases hl
 | k0::ks,d::ds,k,j,h,hl=>by
  simp only[idxK]at h
  unfold Uq
  by_cases e:k0=k
  ·rw[if_pos e]at h ⊢;cases h;exact⟨by simp,by simp⟩
  ·rw[if_neg e]at h ⊢
   obtain⟨j',h',rfl⟩:=Option.map_eq_some_iff.mp h
   obtain⟨h1,h2⟩:=JcL h' (by simpa using hl)
   exact⟨by simpa using h1,by simpa using h2⟩
theorem JdU:∀{ks:List Key} {k:Key},k∈ks→∃j,idxK ks k=some j
 | [],k,h=>by cases h
 | k0::ks,k,h=>by
  simp only[idxK]
  by_cases e:k0=k
  ·exact⟨0,by rw[if_pos e]⟩
  ·rw[if_neg e]
   obtain⟨j,h⟩:=JdU ((List.mem_cons.mp h).resolve_left fun z=>e z.symm)
   exact⟨j+1,by rw[h];rfl⟩
theorem put_keeps {P:D→Prop} {kd:List Key × List D} {k:Key} {x:D} (hl:kd.1.length=kd.2.length) (hp:∀y∈kd.2,P y) (hx:P x) :
  (putP kd k x).1.length=(putP kd k x).2.length∧(∀y∈(putP kd k x).2,P y)∧(∀q∈kd.1,q∈(putP kd k x).1)∧k∈(putP kd k x).1:=by
 unfold putP
 cases q:idxK kd.1 k with
 | some j =>
  refine⟨by simpa using hl,fun y hy=>?_,fun _ h=>h,?_⟩
  ·rcases List.mem_or_eq_of_mem_set hy with z | z
   ·exact hp y z
   ·rw[z];exact hx
  ·exact List.mem_of_getElem? (Jbj q)
 | none =>
  refine⟨by simp[hl],fun y hy=>?_,fun _ h=>List.mem_append_left _ h,by simp⟩
  rcases List.mem_append.mp hy with z | z
  ·exact hp y z
  ·simp at z;rw[z];exact hx
theorem JbJ {P:D→Prop}:∀{ps:List (Key × D)} {kd:List Key × List D},kd.1.length=kd.2.length→(∀y∈kd.2,P y)→(∀p∈ps,P p.2) →
  (ps.foldl (fun acc p=>putP acc p.1 p.2) kd).1.length=(ps.foldl (fun acc p=>putP acc p.1 p.2) kd).2.length∧(∀y∈(ps.foldl (fun acc p=>putP acc p.1 p.2) kd).2,P y) ∧
   (∀q∈kd.1,q∈(ps.foldl (fun acc p=>putP acc p.1 p.2) kd).1)∧∀p∈ps,p.1∈(ps.foldl (fun acc p=>putP acc p.1 p.2) kd).1
 | [],kd,hl,hp,_=>⟨hl,hp,fun _ h=>h,fun _ h=>nomatch h⟩
 | (k,x)::ps,kd,hl,hp,hx=>by
  obtain⟨a1,a2,a3,a4⟩:=put_keeps (k:=k) hl hp (hx (k,x) (by simp))
  obtain⟨b1,b2,b3,b4⟩:=JbJ (ps:=ps) a1 a2 fun p hp=>hx p (by simp[hp])
  refine⟨b1,b2,fun q hq=>b3 q (a3 q hq),fun p hp=>?_⟩
  rcases List.mem_cons.mp hp with z | z
  ·subst z;exact b3 _ a4
  ·exact b4 p z
theorem mk_look {P:D→Prop} {ps:List (Key × D)} (h:∀p∈ps,P p.2):∀p∈ps,∃x,Uq (mkD ps).1 (mkD ps).2 p.1=some x∧P x:=fun p hp=>by
 obtain⟨h1,h2,_,h4⟩:=JbJ (P:=P) (ps:=ps) (kd:=([],[])) rfl (fun _ z=>nomatch z) h
 obtain⟨j,hj⟩:=JdU (h4 p hp)
 obtain⟨e1,e2⟩:=JcL hj h1
 have e3:((mkD ps).2)[j]?=some ((mkD ps).2[j]'e2):=List.getElem?_eq_getElem e2
 exact⟨_,e1.trans e3,h2 _ (List.getElem_mem e2)⟩
end VS
namespace VS
open PySem L2 SeqAt PySem.Spec PyProof.Rows
section
variable {X:Cx} {W:WX} {M M1 M2 M3 V1 V2 V3 Rs R1 R2 R3:List Nat} {e a b c tg o:Expr} {es:List Expr} {ca cb cc:CE} {cs:CA} {pos p apos tpos:Pos} {cl:CL} {i:Nat} {io:List Bool}
variable {pins:List (Addr × Obj)} {σ:L2.St} {H H1 H2 H3 H':Hp} {s:Shared} {C C':Ctx} {fs fs1 fs2:FPs} {env env1 env2:Env} {tf tf' own:List Addr} {cr:Env→R (List AV)}
def MthT (P:Program) (w:World) (K:PySem.W.Frag) (mg:Str→Option Value) (base:Heap) (k:Nat) (c m:Str) (ps:List Str) (io:List Bool) (φ:List D→FR):Prop :=
 ∃(Ca f:Addr) (fd:FuncData),mg c=some (.ref Ca)∧Cls K Ca∧Meth K Ca m f∧FnOk P w K mg base (L2.CX P w) k f fd ps (spF K mg io φ)∧Binds K fd ps []
theorem MthT.mono {P:Program} {w:World} {K:PySem.W.Frag} {mg:Str→Option Value} {base:Heap} {j k:Nat} {c m:Str} {ps:List Str} {io:List Bool} {φ:List D→FR} (F:MthT P w K mg base j c m ps io φ) (h:j≤k):MthT P w K mg base k c m ps io φ :=
 let ⟨Ca,f,fd,h1,h2,h3,h4,h5⟩:=F
 ⟨Ca,f,fd,h1,h2,h3,h4.mono h,h5⟩
variable {k:Nat} {c m:Str} {ps:List Str} {φ:List D→FR}
end
end VS
namespace VS
open PySem L2 SeqAt PySem.Spec PyProof.Rows
section
variable {X:Cx} {W:WX} {M M1 M2 M3 V1 V2 V3 Rs R1 R2 R3:List Nat} {e a b c tg o:Expr} {es:List Expr} {ca cb cc:CE} {cs:CA} {pos p apos tpos:Pos} {cl:CL} {i:Nat} {io:List Bool}
variable {pins:List (Addr × Obj)} {σ:L2.St} {H H1 H2 H3 H' HA:Hp} {s:Shared} {C C':Ctx} {fs fs1 fs2 fsA:FPs} {env env1 env2:Env} {tf tf' own ownr:List Addr} {cr:Env→R (List AV)}
theorem AOk.le {Ms:List Nat} (h:Le H H'):∀{avs:List AV} {vs:List V} {fps:FPs},AOk C H σ Ms Rs fs ownr avs vs fps→AOk C H' σ Ms Rs fs ownr avs vs fps
 | [],vs,fps,x=>x
 | .ro d::as,vs,fps,⟨v,vs',fp,fps',e1,e2,r,i,x⟩=>⟨v,vs',fp,fps',e1,e2,r.le h,i,AOk.le h x⟩
 | .ow d wb::as,vs,fps,⟨v,vs',fp,fps',e1,e2,r,i,x⟩=>⟨v,vs',fp,fps',e1,e2,r.le h,i,AOk.le h x⟩
def MkT (P:Program) (w:World) (K:PySem.W.Frag) (mg:Str→Option Value) (base:Heap) (k:Nat) (c:Str) (ps:List Str) (io:List Bool) (φ:List D→FR):Prop :=
 ∃(Ca f:Addr) (fd:FuncData),mg c=some (.ref Ca)∧Mk K Ca f∧FnOk P w K mg base (L2.CX P w) k f fd ps (spF K mg (true::io) φ)∧Binds K fd ps []
theorem MkT.mono {P:Program} {w:World} {K:PySem.W.Frag} {mg:Str→Option Value} {base:Heap} {j k:Nat} {c:Str} {ps:List Str} {io:List Bool} {φ:List D→FR} (F:MkT P w K mg base j c ps io φ) (h:j≤k):MkT P w K mg base k c ps io φ :=
 let ⟨Ca,f,fd,h1,h2,h4,h5⟩:=F
 ⟨Ca,f,fd,h1,h2,h4.mono h,h5⟩
end
end VS
namespace VS
open PySem L2 SeqAt PySem.Spec PyProof.Rows
section
variable {X:Cx} {W:WX} {M M1 M2 M3 V1 V2 V3 Rs R1 R2 R3:List Nat} {e a b c tg o f:Expr} {es:List Expr} {ca cb cc:CE} {cs:CA} {pos p apos tpos cpos:Pos} {cl:CL} {i:Nat} {io:List Bool}
variable {pins:List (Addr × Obj)} {σ:L2.St} {H H1 H2 H3 H' HA:Hp} {s:Shared} {C C':Ctx} {fs fs1 fs2 fsA:FPs} {env env1 env2:Env} {tf tf' own ownr:List Addr}
theorem Jc1:SO X W [] (.Dict [] [] pos) (cK (.dct .m [] [])):=by
 refine⟨tDNewK,pe_dnewK,fun C fs env σ H tf Q hC G po p np=>?_⟩
 refine po (.ref p) fs (upd H p (.dK [])) [p] (G.grow (Le.new np) (by simp) (by simpa using np) fun a ha=>?_) (Step.grow G (Le.new np)) ⟨p,[],[p],[],rfl,⟨upd_same,rfl⟩,⟨rfl,.nil⟩,⟨rfl,rfl⟩,.inl rfl,rfl⟩
 simp at ha;subst ha;exact⟨_,upd_same,trivial⟩
def Jbo:List (CE × CE)→Env→R (List (Key × D))
 | [],env=>.ok [] env
 | (k,v)::r,env=>(k env).bind fun dk env=>(v env).bind fun dv env=>(Jbo r env).bind fun ps env=>match dk.key with
  | some ky=>.ok ((ky,dv)::ps) env
  | none=>.err
def PostPP (W:WX) (C:Ctx) (M:List Nat) (tf:List Addr) (fs:FPs) (env:Env) (σ:L2.St) (H:Hp) (Q:List (V × V)→Hp→Prop):R (List (Key × D))→Prop
 | .ok ps env'=>∀(kvs:List (Key × V)) fs' H' fp,Good C fs' env' σ H' (fp++tf)→Step M tf fs env H fs' env' H'→kvs.map (·.1)=ps.map (·.1)→Reps C H' (ps.map (·.2)) (kvs.map (·.2)) fp→Q (kvs.map fun kv=>(kV kv.1,kv.2)) H'
 | .ex x env'=>∀cv dd fs' H',Good C fs' env' σ H' tf→Step M tf fs env H fs' env' H'→ExIs C x cv dd H'→W cv dd σ H'
 | .err=>False
structure SPP (X:Cx) (W:WX) (pos:Pos) (M:List Nat) (keys:List (Option Expr)) (values:List Expr) (cps:List (CE × CE)):Prop where
 go:∃trs,PPs X pos keys values trs∧∀C fs env σ H tf Q,C.At X→Good C fs env σ H tf→PostPP W C M tf fs env σ H Q (Jbo cps env)→tPairs trs σ H Q
end
end VS
namespace VS
open PySem L2 SeqAt PySem.Spec PyProof.Rows
section
variable {X:Cx} {W:WX} {Ma Mb Mc V1 V2 V3 Rs R1 R2 R3:List Nat} {e a b c tg o f:Expr} {es:List Expr} {ca cb cc cd:CE} {cs:CA} {pos p apos tpos cpos:Pos} {cl:CL} {i:Nat} {io:List Bool}
variable {pins:List (Addr × Obj)} {σ:L2.St} {H H1 H2 H3 H' HA:Hp} {s:Shared} {C C':Ctx} {fs fs1 fs2 fsA:FPs} {env env1 env2:Env} {tf tf' own ownr:List Addr}
theorem Foc.same {d:D} {v:V} {g1:List Addr} {d':D} {v':V} {fp' g2:List Addr} {F:D→D} (Fo:Foc C H d v g1 d' v' fp' g2 F):Rep C H (F d') v (g1++fp'++g2):=Fo.back H d' fp' (.refl H) (fun _ _=>rfl) Fo.here
theorem reps_snoc {ds:List D} {vs:List V} {x:D} {v:V} {f g:List Addr} (r:Reps C H ds vs f) (rx:Rep C H x v g):Reps C H (ds++[x]) (vs++[v]) (f++g):=Yu r ⟨v,[],g,[],rfl,rx,⟨rfl,rfl⟩,by simp⟩
end
end VS
namespace VS
open PySem L2 SeqAt PySem.Spec PyProof.Rows
section
variable {X:Cx} {C:Ctx} {H H':Hp}
theorem Jbk:∀{ds:List D} {vs:List V} {f:List Addr} (n:Nat),Reps C H ds vs f→∃g1 g2,f=g1++g2∧Reps C H (ds.take n) (vs.take n) g1∧Reps C H (ds.drop n) (vs.drop n) g2
 | ds,vs,f,0,r=>⟨[],f,by simp,⟨rfl,rfl⟩,by simpa using r⟩
 | [],vs,f,n+1,r=>by obtain⟨h1,h2⟩:=r;subst h1 h2;exact⟨[],[],rfl,⟨rfl,rfl⟩,⟨rfl,rfl⟩⟩
 | d::ds,vs,f,n+1,⟨v,vs',f1,f2,e,r,rs,e2⟩=>by
  obtain⟨g1,g2,h1,h2,h3⟩:=Jbk n rs
  subst e e2 h1
  exact⟨f1++g1,g2,by simp,⟨v,vs'.take n,f1,g1,by simp,r,h2,rfl⟩,by simpa using h3⟩
theorem list_upd {ds':List D} {vs vs':List V} {a:Addr} {f f' fpa:List Addr} (hH:H a=some (.lst vs)) (nd:(a::f++fpa).Nodup) (h:∀H',Mono H H'→(∀b∈f++fpa,H' b=H b)→Reps C H' ds' vs' f') :
  Mono H (upd H a (.lst vs'))∧(∀b o,H b=some o→b∉a::f→upd H a (.lst vs') b=some o)∧Rep C (upd H a (.lst vs')) (.lst .m ds') (.ref a) (a::f')∧∀b∈f++fpa,upd H a (.lst vs') b=H b:=by
 have m:=Mono.upd (o:=.lst vs') hH trivial
 have nda:a∉f++fpa:=(List.nodup_cons.mp (by simpa using nd)).1
 have kp:∀b∈f++fpa,upd H a (.lst vs') b=H b:=fun b hb=>upd_ne fun z=>nda (z ▸ hb)
 refine⟨m,fun b o e hb=>?_,⟨a,vs',[a],f',rfl,⟨upd_same,rfl⟩,h _ m kp,.inl rfl,rfl⟩,kp⟩
 rw[upd_ne fun z=>hb (by simp[z])];exact e
def Qp:D→List D→Option (D × D)
 | .lst .m ds,[.int i,x]=>if ds.length < sizeLine∧0≤i∧i < 2 ^ 63 then some (.lst .m (ds.take i.toNat++[x]++ds.drop i.toNat),.non) else none
 | _,_=>none
theorem mu_insert:MuOk X "list" (fun x vs H Q=>∃(l:Addr) (xs:List V) (i:Int) (y:V),x=.ref l∧vs=[.int i,y]∧H l=some (.lst xs)∧xs.length < sizeLine∧0≤i∧i < 2 ^ 63∧Q .non (upd H l (.lst (xs.take i.toNat++[y]++xs.drop i.toNat)))) kdL Qp:=by
 refine⟨?_,Jdj⟩
 intro C H v d fp vs ds fpa Q d' res hC hF r ra nd h k
 unfold Qp at h
 split at h
 case h_2=>cases h
 rename_i ds i x
 split at h
 case isFalse=>cases h
 rename_i hz
 cases h
 obtain⟨a,ws,f,rfl,hH,rs,rfl⟩:=Jei r
 obtain⟨vi,vx,f1,f2,rfl,ri,rx,rfl⟩:=JcS ra
 obtain⟨rfl,rfl⟩:=ri
 obtain⟨g1,g2,rfl,h1,h2⟩:=Jbk i.toNat rs
 obtain⟨m,ch,rp,_⟩:=list_upd (C:=C) (ds':=ds.take i.toNat++[x]++ds.drop i.toNat) (vs':=ws.take i.toNat++[vx]++ws.drop i.toNat) (f:=g1++g2) (f':=g1++f2++g2) (fpa:=f2) hH (by simpa using nd) fun H' m k =>
  Yu (reps_snoc (h1.keep (fun b hb=>k b (by simp[hb])) m) (rx.keep (fun b hb=>k b (by simp[hb])) m)) (h2.keep (fun b hb=>k b (by simp[hb])) m)
 refine⟨a,ws,i,vx,rfl,rfl,hH,by rw[←Jh rs];exact hz.1,hz.2.1,hz.2.2,?_⟩
 refine k _ .non (a::(g1++f2++g2)) [] m ch rp ⟨rfl,rfl⟩ ?_ fun b hb=>?_
 ·have p:(a::(g1++f2++g2)++[]).Perm (a::(g1++g2)++([]++f2)):=by
   simp only[List.append_nil,List.nil_append,List.cons_append]
   refine List.Perm.cons a ?_
   rw[List.append_assoc,List.append_assoc]
   exact List.Perm.append_left g1 List.perm_append_comm
  exact p.nodup_iff.mpr nd
 ·simp at hb ⊢
  rcases hb with z | z | z | z<;>simp[z]
end
section
variable {X:Cx} {W:WX} {Ma Mb Mc V1 V2 V3 Rs R1 R2 R3:List Nat} {e f a b c tg o:Expr} {es:List Expr} {ca cb cc:CE} {cs:CA} {ct:CT} {pos p apos cpos:Pos} {cl:CL} {i:Nat}
theorem so_insert (ho:SL X W i Ma o cl) (ha:SAO X W Mb (e::es) cs)
  (hi:djB [i] Mb=true) (hbase:attributeBase o "insert" X.env (eval o X.env)=eval o X.env)
  (hfew:((backTo cpos (starEach (e::es) X.env)).all (fun x=>!x.1) && (backToKw cpos (keywordEach [] X.env)).all (fun x=>x.1.isSome)
   && decide ((e::es).length+([]:List Keyword).length+(if ([]:List Keyword).isEmpty then 0 else 1) < 30))=true)
  (hline:(apos.endLine == cpos.line)=true) (hs:starEach (e::es) X.env=(false,eval e X.env)::starEach es X.env) (hplain:(backTo cpos (starEach es X.env)).any (·.1)=false) :
  SO X W (Ma++(Mb++[i])) (.Call (.Attribute o "insert" apos) (e::es) [] cpos) (cMut i kdL Qp cl cs) :=
 Jel mu_insert PySem.F.plainAttrs_list PySem.F.slot_list_insert PySem.F.type_list_insert mt_insert ho ha hi hbase hfew hline hs hplain
end
end VS
namespace VS
open PySem L2 SeqAt PySem.Spec PyProof.Rows
mutual
def D.py:D→Option PyData
 | .non=>some .none
 | .bl b=>some (.bool b)
 | .int i=>some (.int i)
 | .str s=>some (.str s)
 | .tup ds=>(pys ds).map .tuple
 | .lst _ ds=>(pys ds).map .list
 | _=>none
def pys:List D→Option (List PyData)
 | []=>some []
 | d::ds=>d.py.bind fun y=>(pys ds).map fun ys=>y::ys
end
def pyO (d:D):PyData:=d.py.getD .none
section
variable {X:Cx} {C:Ctx} {H H':Hp} {pins:List (Addr × Obj)} {σ:L2.St} {s:Shared}
mutual
theorem UZ (I:Inv X pins σ H s) (hC:C.At X) (hF:Fr C H):∀{d:D} {y:PyData} {v:V} {fp:List Addr} {u:Value},d.py=some y→Rep C H d v fp→RelV v u→∃as,Reads s.heap u y as∧∀a∈as,a < s.heap.objs.size
 | .non,y,v,fp,u,h,⟨e,_⟩,r=>by cases h;subst e;cases (show u=Value.none from r);exact⟨[],.none,fun _ z=>nomatch z⟩
 | .bl b,y,v,fp,u,h,⟨e,_⟩,r=>by cases h;subst e;cases (show u=Value.bool b from r);exact⟨[],.bool b,fun _ z=>nomatch z⟩
 | .int i,y,v,fp,u,h,⟨e,_⟩,r=>by cases h;subst e;obtain⟨t,rfl⟩:=(show ∃t,u=Value.int i t from r);exact⟨[],.int i t,fun _ z=>nomatch z⟩
 | .str z,y,v,fp,u,h,⟨e,_⟩,r=>by cases h;subst e;obtain⟨t,rfl⟩:=(show ∃t,u=Value.str z t from r);exact⟨[],.str z t,fun _ z=>nomatch z⟩
 | .tup ds,y,v,fp,u,h,rp,r=>by
  obtain⟨ys,hy,rfl⟩:=Option.map_eq_some_iff.mp h
  obtain⟨a,vs,rfl,q,rs⟩:=JB hC rp
  cases (show u=Value.ref a from r)
  obtain⟨its,rv,⟨o,e,hc,n,hd⟩,_⟩:=I.tuple q
  obtain⟨as,h1,h2⟩:=readsAll_rep I hC hF hy rs rv
  exact⟨as,.tuple e hc hd (by simpa using h1),h2⟩
 | .lst g ds,y,v,fp,u,h,rp,r=>by
  obtain⟨ys,hy,rfl⟩:=Option.map_eq_some_iff.mp h
  obtain⟨a,vs,f,rfl,q,rs⟩:=Jt hC hF rp
  cases (show u=Value.ref a from r)
  obtain⟨its,rv,⟨o,n,e,hc,hdi,hd⟩,_⟩:=I.list q
  obtain⟨as,h1,h2⟩:=readsAll_rep I hC hF hy rs rv
  exact⟨a::as,.list e hc hd (by simpa using h1),fun b hb=>by
   rcases List.mem_cons.mp hb with z | z
   ·rw[z];exact Heap.lt_size e
   ·exact h2 b z⟩
 | .ty _,_,_,_,_,h,_,_=>by cases h
 | .ftu _,_,_,_,_,h,_,_=>by cases h
 | .dct _ _ _,_,_,_,_,h,_,_=>by cases h
 | .obj _ _ _ _,_,_,_,_,h,_,_=>by cases h
 | .exc _ _ _,_,_,_,_,h,_,_=>by cases h
theorem readsAll_rep (I:Inv X pins σ H s) (hC:C.At X) (hF:Fr C H):∀{ds:List D} {ys:List PyData} {vs:List V} {fp:List Addr} {us:List Value},pys ds=some ys→Reps C H ds vs fp→Vals vs us→∃as,ReadsAll s.heap us ys as∧∀a∈as,a < s.heap.objs.size
 | [],ys,vs,fp,us,h,⟨e,_⟩,r=>by cases h;subst e;cases r;exact⟨[],.nil,fun _ z=>nomatch z⟩
 | d::ds,ys,vs,fp,us,h,⟨v,vs',f1,f2,e,rd,rs,_⟩,r=>by
  obtain⟨y,hy,h⟩:=Option.bind_eq_some_iff.mp h
  obtain⟨ys',hys,rfl⟩:=Option.map_eq_some_iff.mp h
  subst e
  cases r with
  | cons r1 r2 =>
   obtain⟨as,h1,h2⟩:=UZ I hC hF hy rd r1
   obtain⟨bs,h3,h4⟩:=readsAll_rep I hC hF hys rs r2
   exact⟨as++bs,.cons h1 h3,fun a ha=>(List.mem_append.mp ha).elim (h2 a) (h4 a)⟩
end
theorem Jcj:∀{ds:List D} {ys:List PyData},pys ds=some ys→ys=ds.map pyO
 | [],ys,h=>by cases h;rfl
 | d::ds,ys,h=>by
  obtain⟨y,hy,h⟩:=Option.bind_eq_some_iff.mp h
  obtain⟨ys',hys,rfl⟩:=Option.map_eq_some_iff.mp h
  simp[pyO,hy,Jcj hys]
theorem JaX:∀{ds:List D} {ys:List PyData} {d:D},pys ds=some ys→d∈ds→d.py=some (pyO d)
 | d0::ds,ys,d,h,hd=>by
  obtain⟨y,hy,h⟩:=Option.bind_eq_some_iff.mp h
  obtain⟨ys',hys,rfl⟩:=Option.map_eq_some_iff.mp h
  rcases List.mem_cons.mp hd with z | z
  ·subst z;simp[pyO,hy]
  ·exact JaX hys z
theorem Jbd:∀{ds:List D} {vs:List V} {us:List Value},ds.length=vs.length→Vals vs us→PySem.W.EachIs (fun (u:Value) (b:D × V)=>RelV b.2 u) us (ds.zip vs)
 | [],[],us,_,r=>by cases r;exact .nil
 | d::ds,v::vs,us,h,r=>by
  cases r with
  | cons r1 r2=>exact .cons r1 (Jbd (by simpa using h) r2)
theorem QL (I:Inv X pins σ H s) (hC:C.At X) (hF:Fr C H):∀{ds:List D} {ys:List PyData} {vs:List V} {fp:List Addr} {us:List Value},pys ds=some ys→Reps C H ds vs fp→Vals vs us →
  PySem.W.EachIs (fun (u:Value) (b:D × V)=>∃as,Reads s.heap u (pyO b.1) as∧∀a∈as,a < s.heap.objs.size) us (ds.zip vs)
 | [],ys,vs,fp,us,h,⟨e,_⟩,r=>by subst e;cases r;exact .nil
 | d::ds,ys,vs,fp,us,h,⟨v,vs',f1,f2,e,rd,rs,_⟩,r=>by
  obtain⟨y,hy,h⟩:=Option.bind_eq_some_iff.mp h
  obtain⟨ys',hys,rfl⟩:=Option.map_eq_some_iff.mp h
  subst e
  cases r with
  | cons r1 r2 =>
   obtain⟨as,h1,h2⟩:=UZ I hC hF hy rd r1
   exact .cons ⟨as,by simpa [pyO,hy] using h1,h2⟩ (QL I hC hF hys rs r2)
theorem Jal:∀{us:List Value} {bs:List (D × V)},PySem.W.EachIs (fun (u:Value) (b:D × V)=>RelV b.2 u) us bs→Vals (bs.map (·.2)) us
 | [],[],_=>.nil
 | u::us,b::bs,h=>by
  cases h with
  | cons h1 h2=>exact .cons h1 (Jal h2)
theorem Qw:∀{bs:List (D × V)},(∀b∈bs,Rep C H b.1 b.2 [])→Reps C H (bs.map (·.1)) (bs.map (·.2)) []
 | [],_=>⟨rfl,rfl⟩
 | b::bs,h=>⟨b.2,bs.map (·.2),[],[],rfl,h b (by simp),Qw fun c hc=>h c (by simp[hc]),rfl⟩
theorem Qz:∀{ds:List D} {vs:List V},Reps C H ds vs []→∀b∈ds.zip vs,Rep C H b.1 b.2 []
 | [],vs,_,b,hb=>by simp at hb
 | d::ds,vs,⟨v,vs',f1,f2,e,r,rs,e2⟩,b,hb=>by
  subst e
  obtain⟨z1,z2⟩:=List.append_eq_nil_iff.mp e2.symm
  subst z1 z2
  rw[List.zip_cons_cons]at hb
  rcases List.mem_cons.mp hb with z | z
  ·subst z;exact r
  ·exact Qz rs b z
end
def leD (a b:D):Bool:=PySem.W.dataLe false pyO a b
def Jav (ds:List D):Bool:=ds.all fun d=>ds.all fun e=>PySem.W.alike (pyO d) (pyO e)
def Zy (ds:List D):Bool:=(ds.all fun d=>match pyO d with
 | .tuple (_::_)=>true
 | _=>false) || ds.all fun d=>match pyO d with
 | .none=>false
 | .tuple _=>false
 | _=>true
def Qm (ds:List D):Bool:=ds.all fun d=>decide ((pyO d).depth≤20)
def Jag (ds:List D):Bool:=(pys ds).isSome && imms ds && Jav ds && Zy ds && Qm ds && decide (ds.length≤sizeLine)
theorem Jaw {ds:List D} (h:Jav ds=true):PySem.W.AllAlike (ds.map pyO):=by
 intro x hx y hy
 obtain⟨d,hd,rfl⟩:=List.mem_map.mp hx
 obtain⟨e,he,rfl⟩:=List.mem_map.mp hy
 exact List.all_eq_true.mp (List.all_eq_true.mp h d hd) e he
theorem QO {ds:List D} (h:Zy ds=true):PySem.W.Sortable (ds.map pyO):=by
 rcases Bool.or_eq_true_iff.mp h with h | h
 ·left
  intro x hx
  obtain⟨d,hd,rfl⟩:=List.mem_map.mp hx
  have:=List.all_eq_true.mp h d hd
  split at this
  ·rename_i y r e;exact⟨y,r,e⟩
  ·cases this
 ·right
  intro x hx
  obtain⟨d,hd,rfl⟩:=List.mem_map.mp hx
  have:=List.all_eq_true.mp h d hd
  split at this
  ·cases this
  ·cases this
  ·rename_i h1 h2
   exact⟨h1,fun xs e=>h2 xs e⟩
section
variable {X:Cx} {C:Ctx} {H H':Hp} {pins:List (Addr × Obj)} {σ:L2.St} {s:Shared}
theorem QV {α β:Type}:∀{xs:List α} {ys:List β},xs.length=ys.length→(xs.zip ys).map (·.1)=xs
 | [],[],_=>rfl
 | x::xs,y::ys,h=>by simp[QV (xs:=xs) (ys:=ys) (by simpa using h)]
theorem Jak (I:Inv X pins σ H s) {k:Nat} (hr:Room k X.A) (hC:C.At X) (hF:Fr C H) {u:Value} {ds:List D} {vs:List V} {Q:VK} (hok:Jag ds=true) (rs:Reps C H ds vs [])
  (hcoll:∀{R:List Value→Shared→Prop} {E:Value→Shared→Prop},(∀h' tk us,(∀b o,s.heap.get? b=some o→h'.get? b=some o)→Vals vs us→R us { s with heap:=h',toks:=tk })→wpAny (model X.prog X.w) X.A.in1 (collect u) R E s)
  (hq:∀p,H p=none→∀vs',Reps C H (ds.mergeSort leD) vs' []→Q (.ref p) (upd H p (.lst vs'))):wpAny (model X.prog X.w) X.A (call (.builtin "sorted") [u]) (EP X pins σ Q) X.xe s:=by
 obtain⟨h6,hlen⟩:=Bool.and_eq_true_iff.mp hok
 obtain⟨h5,hsh⟩:=Bool.and_eq_true_iff.mp h6
 obtain⟨h4,hso⟩:=Bool.and_eq_true_iff.mp h5
 obtain⟨h3,hal⟩:=Bool.and_eq_true_iff.mp h4
 obtain⟨h2,hi⟩:=Bool.and_eq_true_iff.mp h3
 obtain⟨ys,hys⟩:=Option.isSome_iff_exists.mp h2
 have hlen:=of_decide_eq_true hlen
 have lv:ds.length=vs.length:=Jh rs
 refine Calls.call_function_entry PyProof.Rows.kind_sorted PyProof.Rows.plain_sorted PyProof.Rows.entry_sorted (PyProof.Rows.args_sorted1 _) ?_
 unfold Builtin.«sorted»
 refine wpAny_bind (m:=checkCount "sorted" 1 1 _) (wpAny_pure ?_)
 refine wpAny_bind (hcoll fun h' tk us hk rv=>?_)
 have lu:us.length=ds.length:=by rw[lv,rv.length]
 have I1:Inv X pins σ H { s with heap:=h',toks:=tk }:=I.kept hk
 have er0:=QL I1 hC hF hys rs rv
 refine wpAny_bind (wpAny_newList ?_ (by rw[lu];exact hlen))
 have hoL:(h'.push (seqObj "list" us.toArray 0)).get? h'.objs.size=some (seqObj "list" us.toArray 0):=Heap.get?_push_size _ rfl
 show wpAny _ _ _ _ _ { s with heap:=h'.push (seqObj "list" us.toArray 0),toks:=tk }
 have er1:PySem.W.EachIs (fun (u:Value) (b:D × V)=>∃as,Reads (h'.push (seqObj "list" us.toArray 0)) u (pyO b.1) as∧h'.objs.size∉as) us (ds.zip vs) :=
  er0.mono fun u b ⟨as,r,l⟩=>⟨as,PyProof.Rows.Reads.keeps (fun _ _ e=>Heap.get?_push_of_some _ e) r,fun z=>Nat.lt_irrefl _ (l _ z)⟩
 have hz1:(ds.zip vs).map (fun b=>pyO b.1)=ds.map pyO:=by
  have e:=congrArg (List.map pyO) (QV lv)
  rw[List.map_map]at e;exact e
 have hal':PySem.W.AllAlike ((ds.zip vs).map (fun b=>pyO b.1)):=by rw[hz1];exact Jaw hal
 have hso':PySem.W.Sortable ((ds.zip vs).map (fun b=>pyO b.1)):=by rw[hz1];exact QO hso
 have er2:PySem.W.EachIs (fun (u:Value) (b:D × V)=>∃as,Reads (PySem.W.sortingHeap (h'.push (seqObj "list" us.toArray 0)) h'.objs.size us) u (pyO b.1) as) us (ds.zip vs) :=
  PySem.W.each_keepBut (h':=PySem.W.sortingHeap (h'.push (seqObj "list" us.toArray 0)) h'.objs.size us) (fun _ _ hb q=>PySem.W.sortingHeap_old hb q) (fun o q=>by rw[hoL]at q;rw[←Option.some.inj q]) hal' er1
 have lz:(ds.zip vs).length=us.length:=by simp;omega
 have hun:∀b∈ds.zip vs,X.A.in1.in1.units+(pyO b.1).depth < cLine:=fun b hb=>by
  have h1:=of_decide_eq_true (List.all_eq_true.mp hsh b.1 (List.of_mem_zip hb).1)
  have:=hr.units
  show X.A.units+1+1+_ < _
  omega
 have er3:=er1.mono fun u b ⟨as,r,l⟩=>(⟨as,r⟩:∃as,Reads (h'.push (seqObj "list" us.toArray 0)) u (pyO b.1) as)
 have eo:=PySem.W.sortVals_data (R:=fun (u:Value) (b:D × V)=>RelV b.2 u) false (Jbd lv rv) er2 hal'
 refine wpAny_bind (wpAny_holding (wpAny_call_entry PyProof.Rows.slot_list_sort ⟨_,hoL,rfl⟩ PyProof.Rows.entry_list_sort
  (PySem.W.list_sort_vals (κ:=PySem.W.dataKind (PySem.W.sortingHeap (h'.push (seqObj "list" us.toArray 0)) h'.objs.size us) ((ds.zip vs).map (fun b=>pyO b.1))) (s:={ s with heap:=h'.push (seqObj "list" us.toArray 0),toks:=tk }) hoL
   (PySem.W.SortsAt.data (s:={ s with heap:=PySem.W.sortingHeap (h'.push (seqObj "list" us.toArray 0)) h'.objs.size us,toks:=tk }) (PySem.W.each_map (R:=fun v d=>∃as,Reads (PySem.W.sortingHeap (h'.push (seqObj "list" us.toArray 0)) h'.objs.size us) v d as) (fun b:D × V=>pyO b.1) er2) hal' hso' (PySem.W.bound_map hun)) (by rw[lu];exact hlen) ⟨.none,rfl,?_⟩)
  (PyProof.Rows.args_list_sort _)))
 have hout:=Jal eo
 have hperm:=List.mergeSort_perm (ds.zip vs) (PySem.W.dataLe false fun b:D × V=>pyO b.1)
 have hreps:Reps C H (((ds.zip vs).mergeSort (PySem.W.dataLe false fun b:D × V=>pyO b.1)).map (·.1)) (((ds.zip vs).mergeSort (PySem.W.dataLe false fun b:D × V=>pyO b.1)).map (·.2)) [] :=
  Qw fun b hb=>Qz rs b (hperm.mem_iff.mp hb)
 have hms:((ds.zip vs).mergeSort (PySem.W.dataLe false fun b:D × V=>pyO b.1)).map (·.1)=ds.mergeSort leD:=by
  have hm:=List.map_mergeSort (r:=PySem.W.dataLe false fun b:D × V=>pyO b.1) (s:=leD) (f:=fun b:D × V=>b.1) (l:=ds.zip vs) (fun a _ b _=>rfl)
  rw[hm,QV lv]
 rw[hms]at hreps
 obtain⟨e',he'⟩:=PyProof.Rows.sortedHeap_at (vs:=us) (out:=(PySem.W.sortVals (PySem.W.dataKind (PySem.W.sortingHeap (h'.push (seqObj "list" us.toArray 0)) h'.objs.size us) ((ds.zip vs).map (fun b=>pyO b.1))) false us us).toArray) hoL
 have hl2:(((ds.zip vs).mergeSort (PySem.W.dataLe false fun b:D × V=>pyO b.1)).map (·.2)).length≤sizeLine:=by
  rw[List.length_map,hperm.length_eq,lz,lu];exact hlen
 refine wpAny_pure ⟨_,rfl,.ref h'.objs.size,upd H h'.objs.size (.lst (((ds.zip vs).mergeSort (PySem.W.dataLe false fun b:D × V=>pyO b.1)).map (·.2))),I1.laid (t':=tk) (fun b u e=>?_) (Nat.le_refl _)
  (show ObjOk X.prog X.w _ _ _ (.lst _) from ⟨hl2,_,e',hout,he'⟩),rfl,hq _ (I1.hok.fresh (Nat.le_refl _)) _ hreps⟩
 have hb:b < h'.objs.size:=Heap.lt_size e
 rw[PyProof.Rows.sortedHeap_old (Nat.ne_of_lt hb) (by rw[size_push'];exact Nat.lt_succ_of_lt hb)]
 exact Heap.get?_push_of_some _ e
end
end VS
namespace VS
open PySem L2 SeqAt PySem.Spec PyProof.Rows
section
variable {X:Cx} {C:Ctx} {H H':Hp} {pins:List (Addr × Obj)} {σ:L2.St} {s:Shared}
def keyD:Key→D
 | .inl i=>.int i
 | .inr s=>.str s
theorem Jai {C:Ctx} {H:Hp}:∀ks:List Key,Reps C H (ks.map keyD) (ks.map kV) []
 | []=>⟨rfl,rfl⟩
 | .inl i::ks=>⟨.int i,ks.map kV,[],[],rfl,⟨rfl,rfl⟩,Jai ks,rfl⟩
 | .inr i::ks=>⟨.str i,ks.map kV,[],[],rfl,⟨rfl,rfl⟩,Jai ks,rfl⟩
def JdR:D→Option (List D)
 | .lst _ ds=>some ds
 | .tup ds=>some ds
 | .dct _ ks _=>some (ks.map keyD)
 | _=>none
def JV:List D→Option D
 | [d]=>(JdR d).bind fun ds=>if Jag ds then some (.lst .m (ds.mergeSort leD)) else none
 | _=>none
theorem sortOk_imms {ds:List D} (h:Jag ds=true):imms ds=true:=by
 unfold Jag at h
 simp only[Bool.and_eq_true]at h
 exact h.1.1.1.1.2
theorem ZB.lst' {C:Ctx} {H:Hp} {es:List D} {Q:VK} (k:ZB C H (.lst .m es) Q) {vs:List V} (rs:Reps C H es vs []) {p:Addr} (hp:H p=none):Q (.ref p) (upd H p (.lst vs)) :=
 k (.ref p) _ [p] (Le.new hp) ⟨p,vs,[p],[],rfl,⟨upd_same,rfl⟩,rs.le (Le.new hp),.inl rfl,rfl⟩ (by simp) (by simpa using hp)
theorem QH {k:Nat} (hr:Room k X.A) (hcalm:X.calm=true):ODL X (.builtin "sorted") JV:=by
 intro pins s σ H xs us Q I rv ⟨C,ds0,fx,d,hC,hF,rs,e,kk⟩
 unfold JV at e
 split at e
 case h_2=>cases e
 rename_i d0
 obtain⟨v,rfl,r⟩:=YZ rs
 obtain⟨u,rfl,ru⟩:=vals1 rv
 obtain⟨ds,hco,e⟩:=Option.bind_eq_some_iff.mp e
 split at e
 case isFalse=>cases e
 rename_i hok
 cases e
 have hi:=sortOk_imms hok
 have fin:∀p,H p=none→∀vs',Reps C H (ds.mergeSort leD) vs' []→Q (.ref p) (upd H p (.lst vs')):=fun p hp vs' rs'=>kk.lst' rs' hp
 cases d0 with
 | lst g es =>
  cases hco
  obtain⟨a,vs,f,rfl,q,rz⟩:=Jt hC hF r
  have z:=rz.imm hi
  subst z
  cases (show u=Value.ref a from ru)
  obtain⟨its,rv2,⟨o,n,ho,hc,hdi,hd⟩,hz⟩:=I.list q
  refine Jak I hr hC hF hok rz (fun hR=>?_) fin
  exact wpAny_collect_seq a (T := "list") (.inl rfl) ho hc hd (fun h' hk=>hR h' s.toks its hk rv2) (by rw[List.size_toArray,←rv2.length];exact hz)
 | tup es =>
  cases hco
  obtain⟨a,vs,rfl,q,rz⟩:=JB hC r
  have z:=rz.imm hi
  subst z
  cases (show u=Value.ref a from ru)
  obtain⟨its,rv2,⟨o,ho,hc,n,hd⟩,hz⟩:=I.tuple q
  refine Jak I hr hC hF hok rz (fun hR=>?_) fin
  exact wpAny_collect_seq a (T := "tuple") (.inr rfl) ho hc hd (fun h' hk=>hR h' s.toks its hk rv2) (by rw[List.size_toArray,←rv2.length];exact hz)
 | dct g ks es =>
  cases hco
  obtain⟨a,kvs,f1,f2,rfl,hd,hks,_,_⟩:=Jae hF r
  cases (show u=Value.ref a from ru)
  obtain⟨z,lo,vs,rel,dd⟩:=dk_rd I.hok hd
  obtain⟨ep,hat⟩:=dd.dictAt
  have h16:vs.length≤sizeLine:=by rw[←rel.length];exact z
  have hkv:kvs.map (·.1)=vs.map (·.1):=rel.keys
  have hmap:vs.map (fun p=>kV p.1)=ks.map kV:=by
   rw[←hks,hkv,List.map_map];rfl
  refine Jak I hr hC hF hok (Jai ks) (fun hR=>?_) fin
  refine PySem.W.kdu_collect (PySem.W.kdl_dict (knd:=mixKind X.prog X.w) (kvs:=vs) (ep:=ep) lo) (I.ok.hd hcalm) hat h16 fun h' tk acc hk hacc=>hR h' tk _ hk ?_
  rw[←hmap]
  exact keys_at (by rw[Array.length_toList];exact hacc.1) fun j v e=>hacc.2 j v (by rw[←Array.getElem?_toList];exact e)
 | _=>cases hco
def Ja1:PyData→Bool
 | .none=>false
 | _=>true
def Jc3 (f:PyData→PyData→Bool):D→D→Option D:=fun x y=>match x.py,y.py with
 | some a,some b=>if PySem.W.alike a b∧decide (a.depth≤20)=true∧Ja1 a=true then some (.bl (f a b)) else none
 | _,_=>none
theorem Jcl {op:CmpOp} {f:PyData→PyData→Bool} {k:Nat} (hr:Room k X.A)
  (h:∀{A:Around} {E:Value→Shared→Prop} {s:Shared} {a b:Value} {da db:PyData} {as bs:List Addr} {Q:Value→Shared→Prop},Reads s.heap a da as→Reads s.heap b db bs→PySem.W.alike da db=true→da≠.none→A.units+min da.depth db.depth < cLine→Q (.bool (f da db)) s→wpAny (model X.prog X.w) A (compareOp op a b) Q E s) :
  OD2 X (compareOp op) (Jc3 f):=by
 intro pins s σ H x y v u Q I rx ry ⟨C,dx,dy,fx,fy,d,hC,hF,r1,r2,e,kk⟩
 unfold Jc3 at e
 split at e
 case h_2=>cases e
 rename_i a b ha hb
 split at e
 case isFalse=>cases e
 rename_i hc
 cases e
 obtain⟨as,ra,_⟩:=UZ I hC hF ha r1 rx
 obtain⟨bs,rb,_⟩:=UZ I hC hF hb r2 ry
 refine h ra rb hc.1 (fun z=>by subst z;exact absurd hc.2.2 (by simp[Ja1])) (by
  have h1:=of_decide_eq_true hc.2.1
  have:=hr.units
  have:min a.depth b.depth≤a.depth:=Nat.min_le_left _ _
  omega) ⟨.bl _,H,I,rfl,kk.here ⟨rfl,rfl⟩⟩
def pLtG:D→D→Option D:=orP2 pLtI (Jc3 fun a b=>PySem.W.dataLt a b)
def pGtG:D→D→Option D:=orP2 pGtI (Jc3 fun a b=>PySem.W.dataLt b a)
def pGeG:D→D→Option D:=orP2 pGeI (Jc3 fun a b=>!PySem.W.dataLt a b)
theorem od_ltG {k:Nat} (hr:Room k X.A):OD2 X (compareOp .Lt) pLtG:=od_ltI.or (Jcl hr fun a b c d e f=>PySem.W.lt_data a b c d e f)
theorem JeD {k:Nat} (hr:Room k X.A):OD2 X (compareOp .Gt) pGtG:=od_gtI.or (Jcl hr fun a b c d e f=>PySem.W.gt_data a b c d e f)
theorem od_geG {k:Nat} (hr:Room k X.A):OD2 X (compareOp .GtE) pGeG:=od_geI.or (Jcl hr fun a b c d e f=>PySem.W.ge_data a b c d e f)
def ZS:List D→Option D
 | [.dct _ ks ds]=>if imms ds then some (.dct .m ks ds) else none
 | ds=>Jbf ds
theorem JcW (hcalm:X.calm=true):ODL X (.type "dict") ZS:=by
 intro pins s σ H xs us Q I rv ⟨C,ds0,fx,d,hC,hF,rs,e,kk⟩
 unfold ZS at e
 split at e
 ·rename_i g ks ds
  split at e
  case isFalse=>cases e
  rename_i hi
  cases e
  obtain⟨v,rfl,r⟩:=YZ rs
  obtain⟨a,kvs,f1,f2,rfl,n,hks,rz,_,_⟩:=r
  have z:=rz.imm hi
  subst z
  have hd:Rd H a (.dK kvs):=(n.rd hF).rd fun xs=>by intro z;cases z
  refine call_dictD pins s σ H _ us Q I rv ⟨a,kvs,rfl,hd,fun p hp=>?_⟩
  exact kk (.ref p) _ [p] (Le.new hp) ⟨p,kvs,[p],[],rfl,⟨upd_same,rfl⟩,hks,rz.le (Le.new hp),.inl rfl,rfl⟩ (by simp) (by simpa using hp)
 ·exact od_dictP hcalm pins s σ H xs us Q I rv ⟨C,ds0,fx,d,hC,hF,rs,e,kk⟩
mutual
def QA:D→Bool
 | .tup ds=>noLsts ds
 | .non=>true
 | .bl _=>true
 | .int _=>true
 | .str _=>true
 | _=>false
def noLsts:List D→Bool
 | []=>true
 | d::ds=>QA d && noLsts ds
end
mutual
theorem Jec:∀{d e:D} {y:PyData},QA d=true→QA e=true→d.py=some y→e.py=some y→d=e
 | .non,e,y,_,he,h1,h2=>by
  cases h1
  cases e<;>simp[D.py,QA]at *
 | .bl b,e,y,_,he,h1,h2=>by
  cases h1
  cases e<;>simp[D.py,QA]at *
  all_goals first | exact h2.symm | skip
 | .int b,e,y,_,he,h1,h2=>by
  cases h1
  cases e<;>simp[D.py,QA]at *
  all_goals first | exact h2.symm | skip
 | .str b,e,y,_,he,h1,h2=>by
  cases h1
  cases e<;>simp[D.py,QA]at *
  all_goals first | exact h2.symm | skip
 | .tup ds,e,y,hd,he,h1,h2=>by
  obtain⟨ys,hy,rfl⟩:=Option.map_eq_some_iff.mp h1
  cases e with
  | tup es =>
   obtain⟨zs,hz,e⟩:=Option.map_eq_some_iff.mp h2
   cases e
   rw[pys_inj (ds:=ds) (es:=es) hd he hy hz]
  | lst g es=>cases he
  | _=>simp[D.py]at h2
 | .exc _ _ _,_,_,h,_,_,_=>by cases h
 | .ty _,_,_,h,_,_,_=>by cases h
 | .ftu _,_,_,h,_,_,_=>by cases h
 | .lst _ _,_,_,h,_,_,_=>by cases h
 | .dct _ _ _,_,_,h,_,_,_=>by cases h
 | .obj _ _ _ _,_,_,h,_,_,_=>by cases h
theorem pys_inj:∀{ds es:List D} {ys:List PyData},noLsts ds=true→noLsts es=true→pys ds=some ys→pys es=some ys→ds=es
 | [],es,ys,_,_,h1,h2=>by
  cases h1
  cases es with
  | nil=>rfl
  | cons e es =>
   obtain⟨y,hy,h2⟩:=Option.bind_eq_some_iff.mp h2
   obtain⟨ys',hys,e⟩:=Option.map_eq_some_iff.mp h2
   cases e
 | d::ds,es,ys,hd,he,h1,h2=>by
  obtain⟨y,hy,h1⟩:=Option.bind_eq_some_iff.mp h1
  obtain⟨ys',hys,rfl⟩:=Option.map_eq_some_iff.mp h1
  cases es with
  | nil=>cases h2
  | cons e es =>
   obtain⟨y2,hy2,h2⟩:=Option.bind_eq_some_iff.mp h2
   obtain⟨ys2,hys2,e2⟩:=Option.map_eq_some_iff.mp h2
   cases e2
   have hd:=Bool.and_eq_true_iff.mp hd
   have he:=Bool.and_eq_true_iff.mp he
   rw[Jec hd.1 he.1 hy hy2,pys_inj hd.2 he.2 hys hys2]
end
def Qi (f:PyData→PyData→Bool):List D→D→D
 | [],a=>a
 | y::ds,a=>Qi f ds (if f (pyO y) (pyO a) then y else a)
def Jc4 (ds:List D):Bool:=(pys ds).isSome && noLsts ds && Jav ds && Qm ds && ds.all fun d=>Ja1 (pyO d)
def JeV:List D→Option D
 | [.lst _ (d::ds)]=>if Jc4 (d::ds) then some (Qi (fun y a=>PySem.W.dataLt y a) ds d) else none
 | _=>none
theorem Jbq (f:PyData→PyData→Bool):∀(ds:List D) (a:D),Qi f ds a=a∨Qi f ds a∈ds
 | [],a=>.inl rfl
 | y::ds,a=>by
  unfold Qi
  split
  ·rcases Jbq f ds y with z | z
   ·exact .inr (by rw[z];simp)
   ·exact .inr (by simp[z])
  ·rcases Jbq f ds a with z | z
   ·exact .inl z
   ·exact .inr (by simp[z])
theorem Jdr (f:PyData→PyData→Bool):∀(ds:List D) (a:D),pyO (Qi f ds a)=(ds.map pyO).foldl (fun a y=>if f y a then y else a) (pyO a)
 | [],a=>rfl
 | y::ds,a=>by
  unfold Qi
  rw[Jdr f ds,List.map_cons,List.foldl_cons]
  split<;>rfl
theorem noLst_imm:∀{d:D},QA d=true→d.imm=true:=by
 have key:∀n:Nat,∀d:D,sizeOf d≤n→QA d=true→d.imm=true:=by
  intro n
  induction n with
  | zero=>intro d h;cases d<;>simp at h
  | succ n ih =>
   intro d h hd
   cases d with
   | tup ds =>
    have h2:noLsts ds=true:=hd
    show imms ds=true
    have h3:∀d∈ds,sizeOf d≤n:=fun d hd=>by
     have:=List.sizeOf_lt_of_mem hd
     simp at h;omega
    clear h hd
    induction ds with
    | nil=>rfl
    | cons d ds ih2 =>
     have:=Bool.and_eq_true_iff.mp h2
     simp only[imms,ih d (h3 d (by simp)) this.1,ih2 this.2 fun d hd=>h3 d (by simp[hd]),Bool.and_self]
   | lst _ _=>cases hd
   | dct _ _ _=>cases hd
   | obj _ _ _ _=>cases hd
   | exc _ _ _=>cases hd
   | ftu _=>cases hd
   | _=>rfl
 exact fun {d} h=>key _ d (Nat.le_refl _) h
theorem ZH:∀{ds:List D} {d:D},noLsts ds=true→d∈ds→QA d=true
 | d0::ds,d,h,hd=>by
  have:=Bool.and_eq_true_iff.mp h
  rcases List.mem_cons.mp hd with z | z
  ·subst z;exact this.1
  ·exact ZH this.2 z
theorem noLsts_imms {ds:List D} (h:noLsts ds=true):imms ds=true:=by
 rw[Qg,List.all_eq_true]
 exact fun d hd=>noLst_imm (ZH h hd)
end
end VS
namespace VS
open PySem L2 SeqAt PySem.Spec PyProof.Rows
section
variable {X:Cx} {C:Ctx} {H H':Hp} {pins:List (Addr × Obj)} {σ:L2.St} {s:Shared}
def JcG (ds:List D):Bool:=match pys ds with
 | some ys=>decide (PyData.depthAll ys≤20)
 | none=>false
theorem best_of (I:Inv X pins σ H s) (hC:C.At X) (hF:Fr C H) {f:PyData→PyData→Bool} {d0:D} {ds:List D} {vs:List V} {fp:List Addr} {its:List Value} {h':Heap} {i:Nat} {v:Value} {bs:List Addr} (hok:Jc4 (d0::ds)=true) (rs:Reps C H (d0::ds) vs fp) (rv:Vals vs its)
  (hk:∀b o,s.heap.get? b=some o→h'.get? b=some o) (hi:its[i]?=some v) (hr:Reads h' v ((ds.map pyO).foldl (fun a y=>if f y a then y else a) (pyO d0)) bs):∃w,RelV w v∧Rep C H (Qi f ds d0) w []:=by
 unfold Jc4 at hok
 simp only[Bool.and_eq_true]at hok
 obtain⟨⟨⟨⟨h1,h2⟩,h3⟩,h4⟩,h5⟩:=hok
 obtain⟨ys,hys⟩:=Option.isSome_iff_exists.mp h1
 have him:=noLsts_imms h2
 have z:=rs.imm him
 subst z
 obtain⟨w,hw,rw'⟩:=Qq rv hi
 obtain⟨d,hd,rd⟩:=UX rs him hw
 have hdm:=List.mem_of_getElem? hd
 have hbm:Qi f ds d0∈d0::ds:=by
  rcases Jbq f ds d0 with z | z
  ·rw[z];simp
  ·simp[z]
 obtain⟨as,ra,_⟩:=UZ I hC hF (JaX hys hdm) rd rw'
 rw[←Jdr]at hr
 have hal:PySem.W.alike (pyO d) (pyO (Qi f ds d0))=true:=List.all_eq_true.mp (List.all_eq_true.mp h3 d hdm) _ hbm
 have e:=PySem.W.alike_unique _ _ v _ _ hal (PyProof.Rows.Reads.keeps hk ra) hr
 have hdp:=JaX hys hdm
 rw[e]at hdp
 have:d=Qi f ds d0:=Jec (ZH h2 hdm) (ZH h2 hbm) hdp (JaX hys hbm)
 subst this
 exact⟨w,rw',rd⟩
theorem minOk_alike {ds:List D} {ys:List PyData} (h:Jc4 ds=true) (hy:pys ds=some ys):PySem.W.AlikeAll ys:=by
 unfold Jc4 at h
 simp only[Bool.and_eq_true]at h
 have e:=Jcj hy
 subst e
 refine⟨fun x hx y hy=>?_,fun x hx e=>?_⟩
 ·exact Jaw h.1.1.2 x hx y hy
 ·obtain⟨d,hd,rfl⟩:=List.mem_map.mp hx
  have:=List.all_eq_true.mp h.2 d hd
  rw[e]at this
  exact absurd this (by simp[Ja1])
def JcM:List D→Option D:=fun ds=>match ds with
 | [.lst g (d::es)]=>if JcG (d::es) then JeV [.lst g (d::es)] else none
 | ds=>Jdw ds
theorem JdL {k:Nat} (hr:Room k X.A) (hcalm:X.calm=true):ODL X (.builtin "min") JcM:=by
 intro pins s σ H xs us Q I rv ⟨C,ds0,fx,dr,hC,hF,rs,e,kk⟩
 unfold JcM at e
 split at e
 ·rename_i g d es
  split at e
  case isFalse=>cases e
  rename_i hsh
  unfold JeV at e
  split at e
  case h_2=>rename_i hh;exact absurd rfl (hh g d es)
  rename_i g' d' es' he
  cases he
  split at e
  case isFalse=>cases e
  rename_i hok
  cases e
  obtain⟨v,rfl,r⟩:=YZ rs
  obtain⟨a,vs,f,rfl,q,rz⟩:=Jt hC hF r
  obtain⟨u,rfl,ru⟩:=vals1 rv
  cases (show u=Value.ref a from ru)
  obtain⟨its,rv2,hl,hz⟩:=I.list q
  unfold JcG at hsh
  split at hsh
  case h_2=>cases hsh
  rename_i ys hys
  have e1:=Jcj hys
  obtain⟨as,ra,_⟩:=readsAll_rep I hC hF hys rz rv2
  subst e1
  refine PySem.W.min_list_data (x:=pyO d) (xs:=es.map pyO) (as:=as) (I.ok.hd hcalm) hl.isList (by simpa using ra) (minOk_alike hok hys) (by
   have h1:=of_decide_eq_true hsh
   have:=hr.units
   simp only[List.map_cons]at h1
   omega) fun i v h' tk bs hv hrd hk=>?_
  obtain⟨w,h1,h2⟩:=best_of (f:=fun y a=>PySem.W.dataLt y a) I hC hF hok rz rv2 hk (by simpa using hv) hrd
  exact⟨w,H,I.kept hk,h1,kk.here h2⟩
 ·exact od_min2 hcalm pins s σ H xs us Q I rv ⟨C,ds0,fx,dr,hC,hF,rs,e,kk⟩
end
end VS
namespace VS
open PySem L2 SeqAt PySem.Spec PyProof.Rows
section
variable {X:Cx} {W:WX} {Ma Mb Mc V1 V2 V3 Rs R1 R2 R3:List Nat} {e f a b c tg o:Expr} {es:List Expr} {ca cb cc:CE} {cs:CA} {ct:CT} {pos p apos cpos:Pos} {cl:CL} {i:Nat} {st:Stmt}
variable {C:Ctx} {H H':Hp} {pins:List (Addr × Obj)} {σ:L2.St} {s:Shared}
def pInS:D→D→Option D
 | .str a,.str b=>(match a.cps.toList with
  | [c]=>some (.bl (decide (c∈b.cps.toList)))
  | _=>none)
 | _,_=>none
theorem od_inS:OD2 X (compareOp .In) pInS:=by
 refine OD2.of op_in_sign fun x y H Q ⟨C,dx,dy,fx,fy,d,hC,hF,r1,r2,e,k⟩=>?_
 unfold pInS at e
 split at e
 case h_2=>cases e
 rename_i a b
 split at e
 case h_2=>cases e
 rename_i cc hcc
 cases e
 obtain⟨rfl,_⟩:=r1
 obtain⟨rfl,_⟩:=r2
 refine⟨cc,b,?_,rfl,k.here ⟨rfl,rfl⟩⟩
 have:a.cps=#[cc]:=by
  apply Array.toList_inj.mp;simpa using hcc
 cases a
 simp at this
 subst this;rfl
def pInW:D→D→Option D:=orP2 pInS pIn
theorem Jba {k:Nat} (hr:Room k X.A):OD2 X (compareOp .In) pInW:=od_inS.or (od_in hr)
end
end VS
namespace VS
open PySem L2 SeqAt PySem.Spec PyProof.Rows
def ZI (ds:List D):Bool:=(pys ds).isSome && Jav ds && Zy ds && Qm ds && decide (ds.length≤sizeLine)
section
variable {X:Cx} {C:Ctx} {H H':Hp} {pins:List (Addr × Obj)} {σ:L2.St} {s:Shared}
theorem JcP:∀{ds:List D} {vs:List V} {fp:List Addr},Reps C H ds vs fp→Reps C H ((ds.zip vs).map (·.1)) ((ds.zip vs).map (·.2)) fp
 | [],vs,fp,⟨e,e2⟩=>by subst e e2;exact⟨rfl,rfl⟩
 | d::ds,vs,fp,⟨v,vs',f1,f2,e,r,rs,e2⟩=>by subst e e2;exact⟨_,_,f1,f2,rfl,r,JcP rs,rfl⟩
theorem reps_perm {bs cs:List (D × V)} (h:bs.Perm cs):∀{fp:List Addr},Reps C H (bs.map (·.1)) (bs.map (·.2)) fp→∃fp',fp'.Perm fp∧Reps C H (cs.map (·.1)) (cs.map (·.2)) fp':=by
 induction h with
 | nil=>intro fp r;exact⟨fp,.refl _,r⟩
 | cons b _ ih =>
  rintro fp ⟨v,vs',f1,f2,e,r,rs,e2⟩
  cases e;subst e2
  obtain⟨f3,h1,h2⟩:=ih rs
  exact⟨f1++f3,h1.append_left f1,_,_,f1,f3,rfl,r,h2,rfl⟩
 | swap b c l =>
  rintro fp ⟨v,vs',f1,f2,e,r,⟨v2,vs2,f3,f4,e3,r3,rs,e4⟩,e2⟩
  cases e;cases e3;subst e2 e4
  refine⟨f3++(f1++f4),?_,_,_,f3,f1++f4,rfl,r3,⟨_,_,f1,f4,rfl,r,rs,rfl⟩,rfl⟩
  rw[←List.append_assoc,←List.append_assoc]
  exact List.perm_append_comm.append_right f4
 | trans _ _ h1 h2 =>
  intro fp r
  obtain⟨f1,p1,r1⟩:=h1 r
  obtain⟨f2,p2,r2⟩:=h2 r1
  exact⟨f2,p2.trans p1,r2⟩
theorem sorted_byP (I:Inv X pins σ H s) {k:Nat} (hr:Room k X.A) (hC:C.At X) (hF:Fr C H) {u:Value} {ds:List D} {vs:List V} {Q:VK} {fp:List Addr} (hok:ZI ds=true) (rs:Reps C H ds vs fp)
  (hcoll:∀{R:List Value→Shared→Prop} {E:Value→Shared→Prop},(∀h' tk us,(∀b o,s.heap.get? b=some o→h'.get? b=some o)→Vals vs us→R us { s with heap:=h',toks:=tk })→wpAny (model X.prog X.w) X.A.in1 (collect u) R E s)
  (hq:∀p,H p=none→∀vs' fp',Reps C H (ds.mergeSort leD) vs' fp'→fp'.Perm fp→Q (.ref p) (upd H p (.lst vs'))):wpAny (model X.prog X.w) X.A (call (.builtin "sorted") [u]) (EP X pins σ Q) X.xe s:=by
 obtain⟨h6,hlen⟩:=Bool.and_eq_true_iff.mp hok
 obtain⟨h5,hsh⟩:=Bool.and_eq_true_iff.mp h6
 obtain⟨h4,hso⟩:=Bool.and_eq_true_iff.mp h5
 obtain⟨h2,hal⟩:=Bool.and_eq_true_iff.mp h4
 obtain⟨ys,hys⟩:=Option.isSome_iff_exists.mp h2
 have hlen:=of_decide_eq_true hlen
 have lv:ds.length=vs.length:=Jh rs
 refine Calls.call_function_entry PyProof.Rows.kind_sorted PyProof.Rows.plain_sorted PyProof.Rows.entry_sorted (PyProof.Rows.args_sorted1 _) ?_
 unfold Builtin.«sorted»
 refine wpAny_bind (m:=checkCount "sorted" 1 1 _) (wpAny_pure ?_)
 refine wpAny_bind (hcoll fun h' tk us hk rv=>?_)
 have lu:us.length=ds.length:=by rw[lv,rv.length]
 have I1:Inv X pins σ H { s with heap:=h',toks:=tk }:=I.kept hk
 have er0:=QL I1 hC hF hys rs rv
 refine wpAny_bind (wpAny_newList ?_ (by rw[lu];exact hlen))
 have hoL:(h'.push (seqObj "list" us.toArray 0)).get? h'.objs.size=some (seqObj "list" us.toArray 0):=Heap.get?_push_size _ rfl
 show wpAny _ _ _ _ _ { s with heap:=h'.push (seqObj "list" us.toArray 0),toks:=tk }
 have er1:PySem.W.EachIs (fun (u:Value) (b:D × V)=>∃as,Reads (h'.push (seqObj "list" us.toArray 0)) u (pyO b.1) as∧h'.objs.size∉as) us (ds.zip vs) :=
  er0.mono fun u b ⟨as,r,l⟩=>⟨as,PyProof.Rows.Reads.keeps (fun _ _ e=>Heap.get?_push_of_some _ e) r,fun z=>Nat.lt_irrefl _ (l _ z)⟩
 have hz1:(ds.zip vs).map (fun b=>pyO b.1)=ds.map pyO:=by
  have e:=congrArg (List.map pyO) (QV lv)
  rw[List.map_map]at e;exact e
 have hal':PySem.W.AllAlike ((ds.zip vs).map (fun b=>pyO b.1)):=by rw[hz1];exact Jaw hal
 have hso':PySem.W.Sortable ((ds.zip vs).map (fun b=>pyO b.1)):=by rw[hz1];exact QO hso
 have er2:PySem.W.EachIs (fun (u:Value) (b:D × V)=>∃as,Reads (PySem.W.sortingHeap (h'.push (seqObj "list" us.toArray 0)) h'.objs.size us) u (pyO b.1) as) us (ds.zip vs) :=
  PySem.W.each_keepBut (h':=PySem.W.sortingHeap (h'.push (seqObj "list" us.toArray 0)) h'.objs.size us) (fun _ _ hb q=>PySem.W.sortingHeap_old hb q) (fun o q=>by rw[hoL]at q;rw[←Option.some.inj q]) hal' er1
 have lz:(ds.zip vs).length=us.length:=by simp;omega
 have hun:∀b∈ds.zip vs,X.A.in1.in1.units+(pyO b.1).depth < cLine:=fun b hb=>by
  have h1:=of_decide_eq_true (List.all_eq_true.mp hsh b.1 (List.of_mem_zip hb).1)
  have:=hr.units
  show X.A.units+1+1+_ < _
  omega
 have er3:=er1.mono fun u b ⟨as,r,l⟩=>(⟨as,r⟩:∃as,Reads (h'.push (seqObj "list" us.toArray 0)) u (pyO b.1) as)
 have eo:=PySem.W.sortVals_data (R:=fun (u:Value) (b:D × V)=>RelV b.2 u) false (Jbd lv rv) er2 hal'
 refine wpAny_bind (wpAny_holding (wpAny_call_entry PyProof.Rows.slot_list_sort ⟨_,hoL,rfl⟩ PyProof.Rows.entry_list_sort
  (PySem.W.list_sort_vals (κ:=PySem.W.dataKind (PySem.W.sortingHeap (h'.push (seqObj "list" us.toArray 0)) h'.objs.size us) ((ds.zip vs).map (fun b=>pyO b.1))) (s:={ s with heap:=h'.push (seqObj "list" us.toArray 0),toks:=tk }) hoL
   (PySem.W.SortsAt.data (s:={ s with heap:=PySem.W.sortingHeap (h'.push (seqObj "list" us.toArray 0)) h'.objs.size us,toks:=tk }) (PySem.W.each_map (R:=fun v d=>∃as,Reads (PySem.W.sortingHeap (h'.push (seqObj "list" us.toArray 0)) h'.objs.size us) v d as) (fun b:D × V=>pyO b.1) er2) hal' hso' (PySem.W.bound_map hun)) (by rw[lu];exact hlen) ⟨.none,rfl,?_⟩)
  (PyProof.Rows.args_list_sort _)))
 have hout:=Jal eo
 have hperm:=List.mergeSort_perm (ds.zip vs) (PySem.W.dataLe false fun b:D × V=>pyO b.1)
 obtain⟨fp',hpf,hreps⟩:=reps_perm hperm.symm (JcP rs)
 have hms:((ds.zip vs).mergeSort (PySem.W.dataLe false fun b:D × V=>pyO b.1)).map (·.1)=ds.mergeSort leD:=by
  have hm:=List.map_mergeSort (r:=PySem.W.dataLe false fun b:D × V=>pyO b.1) (s:=leD) (f:=fun b:D × V=>b.1) (l:=ds.zip vs) (fun a _ b _=>rfl)
  rw[hm,QV lv]
 rw[hms]at hreps
 obtain⟨e',he'⟩:=PyProof.Rows.sortedHeap_at (vs:=us) (out:=(PySem.W.sortVals (PySem.W.dataKind (PySem.W.sortingHeap (h'.push (seqObj "list" us.toArray 0)) h'.objs.size us) ((ds.zip vs).map (fun b=>pyO b.1))) false us us).toArray) hoL
 have hl2:(((ds.zip vs).mergeSort (PySem.W.dataLe false fun b:D × V=>pyO b.1)).map (·.2)).length≤sizeLine:=by
  rw[List.length_map,hperm.length_eq,lz,lu];exact hlen
 refine wpAny_pure ⟨_,rfl,.ref h'.objs.size,upd H h'.objs.size (.lst (((ds.zip vs).mergeSort (PySem.W.dataLe false fun b:D × V=>pyO b.1)).map (·.2))),I1.laid (t':=tk) (fun b u e=>?_) (Nat.le_refl _)
  (show ObjOk X.prog X.w _ _ _ (.lst _) from ⟨hl2,_,e',hout,he'⟩),rfl,hq _ (I1.hok.fresh (Nat.le_refl _)) _ _ hreps hpf⟩
 have hb:b < h'.objs.size:=Heap.lt_size e
 rw[PyProof.Rows.sortedHeap_old (Nat.ne_of_lt hb) (by rw[size_push'];exact Nat.lt_succ_of_lt hb)]
 exact Heap.get?_push_of_some _ e
end
section
variable {X:Cx} {W:WX} {M Rs:List Nat} {e o:Expr} {c:CE} {pos p apos mpos:Pos} {td:TE}
def JbI (c:CE):CE:=fun env=>(c env).bind fun d env=>match d with
 | .lst .m ds=>if ZI ds then .ok (.lst .m (ds.mergeSort leD)) env else .err
 | _=>.err
def JeL (X:Cx):List V→Hp→VK→Prop:=fun xs H Q=>∃(C:Ctx) (ds:List D) (vs:List V) (f2:List Addr) (a:Addr),C.At X∧Fr C H∧xs=[V.ref a]∧SqL X.K H a vs∧Reps C H ds vs f2∧ZI ds=true∧∀p,H p=none→∀vs' fp',Reps C H (ds.mergeSort leD) vs' fp'→fp'.Perm f2→Q (.ref p) (upd H p (.lst vs'))
theorem call_sortM {k:Nat} (hr:Room k X.A):CallR X (.builtin "sorted") (JeL X):=by
 intro pins s σ H xs us Q I rv h
 obtain⟨C,ds,vs,f2,a,hC,hF,ex,q,rz,hok,kk⟩:=h
 subst ex
 obtain⟨u,rfl,ru⟩:=vals1 rv
 cases (show u=Value.ref a from ru)
 obtain⟨its,rv2,⟨o,n,ho,hc,hdi,hd⟩,hz⟩:=I.list q
 refine sorted_byP I hr hC hF hok rz (fun hR=>?_) kk
 exact wpAny_collect_seq a (T := "list") (.inl rfl) ho hc hd (fun h' hk=>hR h' s.toks its hk rv2) (by rw[List.size_toArray,←rv2.length];exact hz)
theorem so_sortM {k:Nat} {pf:Pos} (hr:Room k X.A) (hg:Gl X "sorted") (hm:X.mg "sorted" = none) (h:SO X W M e c) (he:starEach [e] X.env=[(false,eval e X.env)]:=by rfl) :
  SO X W M (.Call (.Name "sorted" pf) [e] [] pos) (JbI c):=by
 obtain⟨t,pe,q⟩:=h.go
 refine⟨_,pe_callB (call_sortM (X:=X) hr) hg hm (by decide +kernel) (pa_cons pe pa_nil he) (by decide) (by decide) he (by rfl),fun C fs env σ H tf Q hC G po=>?_⟩
 show t σ H fun v H1=>JeL X [v] H1 Q
 refine q C fs env σ H tf _ hC G ?_
 unfold JbI at po
 cases e1:c env with
 | err=>rw[e1]at po;exact po
 | ex x env'=>rw[e1]at po;exact po
 | ok d env1 =>
  rw[e1]at po
  intro v fs1 H1 fp G1 s1 r
  cases d with
  | lst g ds =>
   cases g with
   | m =>
    cases hok:ZI ds with
    | false=>simp only[R.bind,hok]at po;exact po.elim
    | true =>
     have po':Yw W C M tf fs env σ H Q (.ok (.lst .m (ds.mergeSort leD)) env1):=by simpa only [R.bind,hok,if_true] using po
     obtain⟨a,vs,f1,f2,rfl,n,rz,_,rfl⟩:=r
     refine⟨C,ds,vs,f2,a,hC,G1.fr,rfl,by have:=(Nd.rd n G1.fr).sql;rwa[hC.1]at this,rz,hok,fun p hp vs' fp' rz' hpf=>?_⟩
     have le:Le H1 (upd H1 p (.lst vs')):=Le.new hp
     have G2:Good C fs1 env1 σ H1 (f2++tf):=G1.sub (by rw[List.append_assoc];exact List.sublist_append_right _ _)
     have G2':Good C fs1 env1 σ H1 (fp'++tf):=G2.perm (hpf.append_right tf)
     have G3:=G2'.new (o:=.lst vs') hp trivial
     refine po' (.ref p) fs1 _ (p::fp') (by simpa using G3) ?_ ⟨p,vs',[p],fp',rfl,⟨upd_same,rfl⟩,rz'.le le,.inl rfl,rfl⟩
     have:=s1.trans (Step.grow (M:=[]) G1.drop le)
     simpa using this
   | _=>exact po.elim
  | _=>exact po.elim
@[simp] theorem e_cSortM {env:Env}:JbI c env=(c env).bind fun d env=>match d with
 | .lst .m ds=>if ZI ds then .ok (.lst .m (ds.mergeSort leD)) env else .err
 | _=>.err:=(rfl)
end
end VS
namespace VS
open PySem L2 SeqAt PySem.Spec PyProof.Rows
section
variable {X:Cx} {W:WX} {M1 M2 R1 R2:List Nat} {o e:Expr} {ca cb:CE} {pos apos:Pos} {T id:String} {name:Str} {r:V→List V→Hp→VK→Prop} {kd:D→Bool} {p:D→D→Option D}
structure LkOk (X:Cx) (T:String) (r:V→List V→Hp→VK→Prop) (kd:D→Bool) (p:D→D→Option D):Prop where
 run:∀C H x y dx dy fx fy d Q,C.At X→Fr C H→Rep C H dx x fx→Rep C H dy y fy→p dx dy=some d→ZB C H d Q→r x [y] H Q
 ty:∀C H v d fp,C.At X→Fr C H→Rep C H d v fp→kd d=true→tyV X.K T v H
variable {C:Ctx} {H:Hp}
end
end VS
namespace VS
open PySem L2 SeqAt PySem.Spec PyProof.Rows
mutual
def D.nok:D→Bool
 | .tup ds=>noks ds
 | .ftu ds=>noks ds
 | .lst g ds=>(g != .k) && noks ds
 | .dct g _ ds=>(g != .k) && noks ds
 | .obj g _ _ ds=>(g != .k) && noks ds
 | .exc _ _ ds=>noks ds
 | _=>true
def noks:List D→Bool
 | []=>true
 | d::ds=>d.nok && noks ds
end
def ctxK (C:Ctx) (a:Addr):Ctx:=⟨C.K,C.mg,C.H0,C.A,a::C.Lk⟩
section
variable {C:Ctx} {H H2:Hp} {a:Addr} {od:Obj} {kvs:List (Key × V)}
theorem Jb8 (h:H a=some (.dK kvs)) {g b u fp} (n:Nd C H g b u fp) (hfp:a∉fp):Nd (ctxK C a) (L2.upd H a (.frz od (.dK kvs))) g b u fp:=by
 cases g with
 | m =>
  obtain⟨e,rfl⟩:=n
  have hb:b≠a:=fun z=>hfp (by simp[z])
  exact⟨by rw[upd_ne hb];exact e,rfl⟩
 | l=>exact n
 | f =>
  obtain⟨⟨o,e⟩,x,q⟩:=n
  have hb:b≠a:=by rintro rfl;rw[h]at e;cases e
  exact⟨⟨o,by rw[upd_ne hb];exact e⟩,by simp[ctxK,hb,x],q⟩
 | k =>
  obtain⟨⟨o,e⟩,q⟩:=n
  have hb:b≠a:=by rintro rfl;rw[h]at e;cases e
  exact⟨⟨o,by rw[upd_ne hb];exact e⟩,q⟩
mutual
theorem Rep.lockIn (h:H a=some (.dK kvs)):∀{d:D} {v:V} {fp:List Addr},Rep C H d v fp→a∉fp→Rep (ctxK C a) (L2.upd H a (.frz od (.dK kvs))) d v fp
 | .non,v,fp,r,_=>r
 | .bl b,v,fp,r,_=>r
 | .int i,v,fp,r,_=>r
 | .str s,v,fp,r,_=>r
 | .ty s,v,fp,r,_=>r
 | .tup ds,v,fp,⟨b,vs,e,t,r⟩,hn=>⟨b,vs,e,QP t (Mono.upd h trivial),Reps.lockIn h r hn⟩
 | .ftu ds,v,fp,⟨b,vs,e,t,r⟩,hn=>⟨b,vs,e,t.keep (Mono.upd h trivial),Reps.lockIn h r hn⟩
 | .lst g ds,v,fp,⟨b,vs,f1,f2,e,n,r,z,e2⟩,hn=>⟨b,vs,f1,f2,e,Jb8 h n (fun q=>hn (by rw[e2];exact List.mem_append_left _ q)),Reps.lockIn h r (fun q=>hn (by rw[e2];exact List.mem_append_right _ q)),z,e2⟩
 | .dct g ks ds,v,fp,⟨b,vs,f1,f2,e,n,q,r,z,e2⟩,hn=>⟨b,vs,f1,f2,e,Jb8 h n (fun q=>hn (by rw[e2];exact List.mem_append_left _ q)),q,Reps.lockIn h r (fun q=>hn (by rw[e2];exact List.mem_append_right _ q)),z,e2⟩
 | .obj g c ns ds,v,fp,⟨b,Ca,dx,fls,f1,f2,e,c1,n,q,r,z,e2⟩,hn=>⟨b,Ca,dx,fls,f1,f2,e,c1,Jb8 h n (fun q=>hn (by rw[e2];exact List.mem_append_left _ q)),q,Reps.lockIn h r (fun q=>hn (by rw[e2];exact List.mem_append_right _ q)),z,e2⟩
 | .exc c ns ds,v,fp,⟨b,Ca,d,fls,e,c1,n,x,q,r,e2⟩,hn=>⟨b,Ca,d,fls,e,c1,(Mono.upd h trivial).x _ _ trivial n,x.mono (Mono.upd h trivial),q,Reps.lockIn h r (fun q=>nomatch q),e2⟩
theorem Reps.lockIn (h:H a=some (.dK kvs)):∀{ds:List D} {vs:List V} {fp:List Addr},Reps C H ds vs fp→a∉fp→Reps (ctxK C a) (L2.upd H a (.frz od (.dK kvs))) ds vs fp
 | [],vs,fp,r,_=>r
 | d::ds,vs,fp,⟨v,vs',f1,f2,e,r,rs,e2⟩,hn=>⟨v,vs',f1,f2,e,Rep.lockIn h r (fun q=>hn (by rw[e2];exact List.mem_append_left _ q)),Reps.lockIn h rs (fun q=>hn (by rw[e2];exact List.mem_append_right _ q)),e2⟩
end
theorem JaR {b:Addr} {o:HO} (h:H2 a=some (.frz od (.dK kvs))) (k:Hard o) (e:H2 b=some o):L2.upd H2 a (.dK kvs) b=some o:=by
 have hb:b≠a:=by rintro rfl;rw[h]at e;cases e;exact k
 rw[upd_ne hb];exact e
theorem xd_unlock (h:H2 a=some (.frz od (.dK kvs))):∀{d:Option Addr} {fl:List (Str × V)},XdAt H2 d fl→XdAt (L2.upd H2 a (.dK kvs)) d fl
 | none,_,x=>x
 | some _,_,x=>JaR h trivial x
theorem ft_unlock {b xs} (h:H2 a=some (.frz od (.dK kvs))) (t:FT H2 b xs):FT (L2.upd H2 a (.dK kvs)) b xs:=by
 obtain⟨o,e,q⟩:=t
 have ne:b≠a:=by rintro rfl;rw[h]at e;cases e
 exact⟨o,by rw[upd_ne ne];exact e,q⟩
theorem sqt_unlock {K b xs} (h:H2 a=some (.frz od (.dK kvs))) (t:SqT K H2 b xs):SqT K (L2.upd H2 a (.dK kvs)) b xs:=by
 rcases t with (q | ⟨o,q⟩) | q
 ·exact .inl (.inl (by rw[upd_ne (by rintro rfl;rw[h]at q;cases q)];exact q))
 ·exact .inl (.inr ⟨o,by rw[upd_ne (by rintro rfl;rw[h]at q;cases q)];exact q⟩)
 ·exact .inr q
theorem Jah (h:H2 a=some (.frz od (.dK kvs))) {g b u fp} (n:Nd (ctxK C a) H2 g b u fp) (mu:Mutb u) (hg:(g != .k)=true):Nd C (L2.upd H2 a (.dK kvs)) g b u fp:=by
 cases g with
 | m =>
  obtain⟨e,rfl⟩:=n
  have hb:b≠a:=by rintro rfl;rw[h]at e;cases e;exact mu
  exact⟨by rw[upd_ne hb];exact e,rfl⟩
 | l=>exact n
 | f =>
  obtain⟨⟨o,e⟩,x,q⟩:=n
  simp only[ctxK,List.mem_cons,not_or]at x
  exact⟨⟨o,by rw[upd_ne x.1];exact e⟩,x.2,q⟩
 | k=>cases hg
mutual
theorem Rep.unlock (h:H2 a=some (.frz od (.dK kvs))):∀{d:D} {v:V} {fp:List Addr},Rep (ctxK C a) H2 d v fp→d.nok=true→Rep C (L2.upd H2 a (.dK kvs)) d v fp
 | .non,v,fp,r,_=>r
 | .bl b,v,fp,r,_=>r
 | .int i,v,fp,r,_=>r
 | .str s,v,fp,r,_=>r
 | .ty s,v,fp,r,_=>r
 | .tup ds,v,fp,⟨b,vs,e,t,r⟩,hn=>⟨b,vs,e,sqt_unlock h t,Reps.unlock h r hn⟩
 | .ftu ds,v,fp,⟨b,vs,e,t,r⟩,hn=>⟨b,vs,e,ft_unlock h t,Reps.unlock h r hn⟩
 | .lst g ds,v,fp,⟨b,vs,f1,f2,e,n,r,z,e2⟩,hn=>⟨b,vs,f1,f2,e,Jah h n trivial (Bool.and_eq_true_iff.mp hn).1,Reps.unlock h r (Bool.and_eq_true_iff.mp hn).2,z,e2⟩
 | .dct g ks ds,v,fp,⟨b,vs,f1,f2,e,n,q,r,z,e2⟩,hn=>⟨b,vs,f1,f2,e,Jah h n trivial (Bool.and_eq_true_iff.mp hn).1,q,Reps.unlock h r (Bool.and_eq_true_iff.mp hn).2,z,e2⟩
 | .obj g c ns ds,v,fp,⟨b,Ca,dx,fls,f1,f2,e,c1,n,q,r,z,e2⟩,hn=>⟨b,Ca,dx,fls,f1,f2,e,c1,Jah h n trivial (Bool.and_eq_true_iff.mp hn).1,q,Reps.unlock h r (Bool.and_eq_true_iff.mp hn).2,z,e2⟩
 | .exc c ns ds,v,fp,⟨b,Ca,d,fls,e,c1,n,x,q,r,e2⟩,hn=>⟨b,Ca,d,fls,e,c1,JaR h trivial n,xd_unlock h x,q,Reps.unlock h r hn,e2⟩
theorem Reps.unlock (h:H2 a=some (.frz od (.dK kvs))):∀{ds:List D} {vs:List V} {fp:List Addr},Reps (ctxK C a) H2 ds vs fp→noks ds=true→Reps C (L2.upd H2 a (.dK kvs)) ds vs fp
 | [],vs,fp,r,_=>r
 | d::ds,vs,fp,⟨v,vs',f1,f2,e,r,rs,e2⟩,hn=>⟨v,vs',f1,f2,e,Rep.unlock h r (Bool.and_eq_true_iff.mp hn).1,Reps.unlock h rs (Bool.and_eq_true_iff.mp hn).2,e2⟩
end
end
end VS
namespace VS
open PySem L2 SeqAt PySem.Spec PyProof.Rows
structure FnG (P:Program) (w:World) (K:PySem.W.Frag) (mg:Str→Option Value) (base:Heap) (k:Nat) (f:Addr) (fd:FuncData) (ps:List Str) (sp:Sp):Prop where
 len:∀vs H Q E,sp vs H Q E→vs.length=ps.length
 go:∀(B:Around) (fr:List PySem.Env) (t:Shared) (H:Hp) (as:Args) (us:List Value) (vs:List V) (Q:VK) (E:XK),Room k B→B.guards=some []→Env0 P w K mg base B fr t H→BindsTo t fd as (ps.zip us)→Vals vs us→sp vs H Q E →
  codeAny (model P w) B (.call (.ref f) as) (CR (L2.CX P w) fr P w H t Q E) t
section
variable {P:Program} {w:World} {K:PySem.W.Frag} {mg:Str→Option Value} {base:Heap}
theorem FnG.mono {j k:Nat} {f:Addr} {fd:FuncData} {ps:List Str} {sp:Sp} (F:FnG P w K mg base j f fd ps sp) (h:j≤k):FnG P w K mg base k f fd ps sp :=
 ⟨F.len,fun B fr t H as us vs Q E hr hg=>F.go B fr t H as us vs Q E (hr.mono h) hg⟩
theorem FnG.imp {k:Nat} {f:Addr} {fd:FuncData} {ps:List Str} {sp sp':Sp} (F:FnG P w K mg base k f fd ps sp) (h:∀vs H Q E,sp' vs H Q E→sp vs H Q E):FnG P w K mg base k f fd ps sp' :=
 ⟨fun vs H Q E q=>F.len vs H Q E (h _ _ _ _ q),fun B fr t H as us vs Q E hr hg e0 hb hv q=>F.go B fr t H as us vs Q E hr hg e0 hb hv (h _ _ _ _ q)⟩
theorem fng_of {k:Nat} {f:Addr} {nm qual:Str} {ar:Arguments} {body:List Stmt} {sco:Scope} {dV kV doc pm cdv ct oc:Value} {an od:Option Addr} {osl:Array (Option Value)} {N ps:List Str} {sp:Sp}
  (lk:K.lookup f=some ⟨oc,od,.func (PySem.W.fnOf nm qual ar body sco dV kV doc pm an cdv ct),osl⟩) (hcd:PySem.W.codeIn K cdv qual=true) (S:FnScope N ps sco) (len:∀vs H Q E,sp vs H Q E→vs.length=ps.length)
  (hbd:∀(B:Around) (fr:List PySem.Env) (t:Shared) (H:Hp) (vs:List V) (Q:VK) (E:XK),Room k (B.deeper (envOfC qual sco t.heap.objs.size f cdv))→B.guards=some []→sp vs H Q E →
   ∃rd,PSs (cxOf (L2.CX P w) P w K mg base N qual sco f cdv B fr t H E) body rd∧rd { nx:=fun _ H'=>Q .non H',rt:=Q } (start N vs) H) :
  FnG P w K mg base (k+1) f (PySem.W.fnOf nm qual ar body sco dV kV doc pm an cdv ct) ps sp:=by
 refine⟨len,fun B fr t H as us vs Q E hr hgd e0 hb rv hsp=>?_⟩
 have hlen:=len _ _ _ _ hsp
 have kin:K.In t.heap:=e0.mod.kin.keeps fun b o e=>(e0.bs b o e).1
 have nolim:t.heap.NoLimit:=e0.mod.nolimit.keeps fun b o e=>(e0.bs b o e).1
 have kinds:∀y∈ps.zip us,sco.names.lookup y.1=some .local∨(sco.names.lookup y.1=some .cell∧((cellsFrom (t.heap.objs.size+1) sco.names []).lookup y.1).isSome=true):=fun ⟨n,v⟩ hy =>
  (S.par n (List.of_mem_zip hy).1).elim .inl fun q=>.inr ⟨q,PySem.W.cellsFrom_some _ _ _ (.inl q)⟩
 refine codeAny_call_function hr.depth (kin _ _ lk) rfl S.co S.gen rfl (PySem.W.codeRec_of kin hcd) (hb _ _ _ _ (wpAny_newFunctionEnv_cells S.kind kinds fun env he t1 x=>?_))
 subst he
 refine⟨nolim.keeps x.toInCall.keep,codeAny_func ?_⟩
 obtain⟨rd,hrd,hq⟩:=hbd B fr t H vs Q E (hr.deeper _) hgd hsp
 have I0:Inv (cxOf (L2.CX P w) P w K mg base N qual sco f cdv B fr t H E) [] (start N vs) H t1:=inv_start S hr.hd e0 hlen rv x
 refine wpAny_mono (hrd.run [] t1 (start N vs) H _ I0 hq) (fun fl t' hs=>?_) fun e t' hs=>hs
 cases fl with
 | ret u=>exact let ⟨v,_,H',J,rr,q⟩:=hs;⟨v,H',J.os,J.bare,J.base,J.hok,rr,q⟩
 | next=>exact let ⟨_,H',J,q⟩:=hs;⟨V.non,H',J.os,J.bare,J.base,J.hok,rfl,q⟩
 | brk=>exact let ⟨_,_,_,q⟩:=hs;q.elim
 | cont=>exact let ⟨_,_,_,q⟩:=hs;q.elim
theorem Jeb {x qual:Str} {st:Stmt} {f:Addr} {fd:FuncData} {N ps:List Str} {k:Nat} {io:List Bool} {c:CS} {M Vs:List Nat}
  (F:Fun K x qual st f fd) (S:FnScope N ps (defScope st)) (hio:io.length=ps.length) (hv:djB (JF 0 io) Vs=true)
  (hb:∀(cdv:Value) (A:Around) (outer:List PySem.Env) (s:Shared) (H:Hp) (E:XK),Room k (A.deeper (envOfC qual (defScope st) s.heap.objs.size f cdv))→A.guards=some [] →
   SSs (cxOf (L2.CX P w) P w K mg base N qual (defScope st) f cdv A outer s H E) (fun cls d _ H=>E cls d H) M Vs (defBody st) c) :
  FnG P w K mg base (k+1) f fd ps (spF K mg io (JR N.length io c)):=by
 obtain⟨oc,od,kV,doc,pm,an,cdv,ct,osl,rfl,lk,hcd⟩:=F.ex
 exact fng_of lk hcd S (fun vs H Q E h=>by obtain⟨Lk,ds,fps,hl,_⟩:=h;rw[hl,hio]) fun B fr t H vs Q E hr hg hsp=>JdI rfl rfl S hio hv (hb cdv B fr t H E hr hg) hsp
end
def FdG (P:Program) (w:World) (K:PySem.W.Frag) (mg:Str→Option Value) (base:Heap) (k:Nat) (x:Str) (ps:List Str) (io:List Bool) (φ:List D→FR):Prop :=
 ∃(f:Addr) (fd:FuncData),FnG P w K mg base k f fd ps (spF K mg io φ)∧mg x=some (.ref f)∧PySem.W.keepIn K (.ref f)=true∧Binds K fd ps []
theorem fdg_mk {P:Program} {w:World} {K:PySem.W.Frag} {mg:Str→Option Value} {base:Heap} {k:Nat} {x:Str} {st:Stmt} {f:Addr} {fd:FuncData} {ps:List Str} {io:List Bool} {φ:List D→FR} (F:Fun K x x st f fd) (hm:mg x=some (.ref f)) (hb:Binds K fd ps [])
  (h:FnG P w K mg base k f fd ps (spF K mg io φ)):FdG P w K mg base k x ps io φ:=⟨f,fd,h,hm,F.kp,hb⟩
theorem FdG.mono {P:Program} {w:World} {K:PySem.W.Frag} {mg:Str→Option Value} {base:Heap} {j k:Nat} {x:Str} {ps:List Str} {io:List Bool} {φ:List D→FR} (F:FdG P w K mg base j x ps io φ) (h:j≤k):FdG P w K mg base k x ps io φ :=
 let ⟨f,fd,G,a,b,c⟩:=F
 ⟨f,fd,G.mono h,a,b,c⟩
section
variable {X:Cx} {W:WX} {M Rs:List Nat} {e:Expr} {es:List Expr} {pos:Pos} {cr:Env→R (List AV)} {io:List Bool}
theorem run_g {k:Nat} {f:Addr} {fd:FuncData} {ps:List Str} {sp:Sp} {E:L2.St→XK} {pins:List (Addr × Obj)} {σ:L2.St} {H:Hp} {s:Shared} {Q:VK} {us:List Value} {vs:List V} (F:FnG X.prog X.w X.K X.mg X.base k f fd ps sp) (hr:Room k X.A) (hg:X.A.guards=some []) (hb:Binds X.K fd ps [])
  (hx:PassesAt (L2.CX X.prog X.w) X σ (E σ)) (I:Inv X pins σ H s) (rv:Vals vs us) (h:sp vs H Q (E σ)):wpAny (model X.prog X.w) X.A (call (.ref f) us) (EP X pins σ Q) X.xe s:=by
 have hlen:us.length=ps.length:=by rw[←rv.length];exact F.len _ _ _ _ h
 have bd:=hb s us I.kIn (by rw[List.append_nil];exact hlen)
 rw[List.append_nil]at bd
 refine wpAny_call (codeAny_mono (F.go X.A X.stack s H ⟨us,[]⟩ us vs Q (E σ) hr hg I.env0 bd rv h) fun out t hq=>?_)
 match out,hq with
 | .error e,hq=>exact hx pins H s e t I hq
 | .ok (.ret u),hq=>exact I.after hq
 | .ok .next,hq=>exact hq.elim
 | .ok .brk,hq=>exact hq.elim
 | .ok .cont,hq=>exact hq.elim
theorem so_callG {k:Nat} {x:Str} {ps:List Str} {φ:List D→FR} {pf:Pos} (F:FdG X.prog X.w X.K X.mg X.base k x ps io φ) (hr:Room k X.A) (hgd:X.A.guards=some []) (tk:Takes X W) (ha:SRI X W M Rs io (e::es) cr) (hg:Gl X x:=by rfl)
  (hdb:(x == ("__debug__" : Str))=false:=by decide) (he:starEach (e::es) X.env=(false,eval e X.env)::starEach es X.env:=by rfl) (hpl:(backTo pos (starEach es X.env)).any (·.1)=false:=by rfl) :
  SO X W M (.Call (.Name x pf) (e::es) [] pos) (Jo φ cr):=by
 obtain⟨f,fd,G,hm,hk,hb⟩:=F
 obtain⟨t,p,q⟩:=ha.sr.go
 refine⟨tCallS (spF X.K X.mg io φ) (WE W) t,⟨fun pins s σ H Q I h=>wpAny_Call_Name_kw (ld_glob I hg hm (PySem.W.callWith_K (h₀:=X.base) I.ok.mod.kin hk (thn (p.run pos pins s σ H _ I h) fun us s1 ⟨vs,H1,I1,r,q1⟩=>⟨I1.kIn,run_g G hr hgd hb (passAt tk σ) I1 r q1⟩) he hpl) hdb)⟩,?_⟩
 exact JdN (E:=WE W) (fun _ _ _ _ h=>h) ha.shape q (by unfold djB;simp)
end
mutual
theorem JbN:∀{d:D} {y:PyData},d.py=some y→y.hasDict=false
 | .non,y,h=>by cases h;rfl
 | .bl b,y,h=>by cases h;rfl
 | .int i,y,h=>by cases h;rfl
 | .str s,y,h=>by cases h;rfl
 | .tup ds,y,h=>by
  obtain⟨ys,hy,rfl⟩:=Option.map_eq_some_iff.mp h
  show PyData.hasDictAll ys=false
  exact pys_nodict hy
 | .lst g ds,y,h=>by
  obtain⟨ys,hy,rfl⟩:=Option.map_eq_some_iff.mp h
  show PyData.hasDictAll ys=false
  exact pys_nodict hy
 | .ty _,_,h=>by cases h
 | .ftu _,_,h=>by cases h
 | .dct _ _ _,_,h=>by cases h
 | .obj _ _ _ _,_,h=>by cases h
 | .exc _ _ _,_,h=>by cases h
theorem pys_nodict:∀{ds:List D} {ys:List PyData},pys ds=some ys→PyData.hasDictAll ys=false
 | [],ys,h=>by cases h;rfl
 | d::ds,ys,h=>by
  obtain⟨y,hy,h⟩:=Option.bind_eq_some_iff.mp h
  obtain⟨ys',hys,rfl⟩:=Option.map_eq_some_iff.mp h
  show (PyData.hasDict y || PyData.hasDictAll ys')=false
  rw[JbN hy,pys_nodict hys];rfl
end
def shOk (y:PyData):Bool:=y.showable && decide (y.shown.length≤sizeLine) && decide (y.depth≤100)
def JaP:List D→Option D
 | [d]=>match d.py with
  | some y=>if shOk y then some (.str y.shown) else none
  | none=>none
 | _=>none
def JeS:List D→Option D
 | [.int i]=>if i.natAbs.log2 < 1920 then some (.str (toString i)) else none
 | [.str z]=>some (.str z)
 | _=>none
def pStr:List D→Option D
 | [.tup ds]=>JaP [.tup ds]
 | [.lst g ds]=>JaP [.lst g ds]
 | [.int i]=>if i.natAbs.log2 < 1920 then some (.str (toString i)) else none
 | [.str z]=>some (.str z)
 | _=>none
section
variable {X:Cx}
theorem od_strI:ODL X (.type "str") JeS:=by
 intro pins s σ H xs us Q I rv ⟨C,ds,fx,d,hC,hF,rs,e,k⟩
 unfold JeS at e
 split at e
 ·rename_i i
  split at e
  case isFalse=>cases e
  rename_i hk
  cases e
  obtain⟨v,rfl,r⟩:=YZ rs
  obtain⟨rfl,_⟩:=r
  exact call_str_int pins s σ H _ us Q I rv ⟨i,rfl,hk,k.here ⟨rfl,rfl⟩⟩
 ·rename_i z
  cases e
  obtain⟨v,rfl,r⟩:=YZ rs
  obtain⟨rfl,_⟩:=r
  exact SkE.call_str_str pins s σ H _ us Q I rv ⟨z,rfl,k.here ⟨rfl,rfl⟩⟩
 ·cases e
theorem od_str {k:Nat} (hr:Room k X.A) (hg:X.A.guards=some []):ODL X (.type "str") pStr:=by
 intro pins s σ H xs us Q I rv ⟨C,ds,fx,d,hC,hF,rs,e,k⟩
 have leaf:=od_strI pins s σ H xs us Q I rv
 have gen:∀d0,ds=[d0]→JaP [d0]=some d→(∃ys,d0.py=some (.list ys))∨(∃ys,d0.py=some (.tuple ys))→wpAny (model X.prog X.w) X.A (call (.type "str") us) (EP X pins σ Q) X.xe s:=by
  intro d0 hd e1 hs
  subst hd
  unfold JaP at e1
  simp only at e1
  split at e1
  case h_2=>cases e1
  rename_i y hy
  split at e1
  case isFalse=>cases e1
  rename_i hk
  cases e1
  simp only[shOk,Bool.and_eq_true,decide_eq_true_eq]at hk
  obtain⟨v,rfl,r⟩:=YZ rs
  obtain⟨u,rfl,ru⟩:=vals1 rv
  obtain⟨as,hrd,_⟩:=UZ I hC hF hy r ru
  have hun:=hr.un
  have hnd:=JbN hy
  cases hrd with
  | list h1 h2 h3 h4 =>
   refine str_of_reads (.list h1 h2 h3 h4) hk.1.1 (PyData.noDict_hsm hnd) hg (by have:=hk.2;omega) (fun _ _ e=>e) (fun h' u tk hk'=>?_) hk.1.2
   exact⟨.str _,H,I.kept (t':=tk) fun b o q=>hk' b o q,⟨_,rfl⟩,k.here ⟨rfl,rfl⟩⟩
  | tuple h1 h2 h3 h4 =>
   refine str_of_reads (.tuple h1 h2 h3 h4) hk.1.1 (PyData.noDict_hsm hnd) hg (by have:=hk.2;omega) (fun _ _ e=>e) (fun h' u tk hk'=>?_) hk.1.2
   exact⟨.str _,H,I.kept (t':=tk) fun b o q=>hk' b o q,⟨_,rfl⟩,k.here ⟨rfl,rfl⟩⟩
  | _=>rcases hs with ⟨ys,z⟩ | ⟨ys,z⟩<;>rw[hy]at z<;>cases z
 unfold pStr at e
 split at e
 ·rename_i ds0
  refine gen _ rfl e (.inr ?_)
  unfold JaP at e
  simp only at e
  split at e
  ·rename_i y hy
   obtain⟨ys,_,rfl⟩:=Option.map_eq_some_iff.mp hy
   exact⟨ys,hy⟩
  ·cases e
 ·rename_i g ds0
  refine gen _ rfl e (.inl ?_)
  unfold JaP at e
  simp only at e
  split at e
  ·rename_i y hy
   obtain⟨ys,_,rfl⟩:=Option.map_eq_some_iff.mp hy
   exact⟨ys,hy⟩
  ·cases e
 ·exact leaf ⟨C,_,fx,d,hC,hF,rs,e,k⟩
 ·exact leaf ⟨C,_,fx,d,hC,hF,rs,e,k⟩
 ·cases e
end
theorem law_impG {P:Program} {w:World} {K:PySem.W.Frag} {mg:Str→Option Value} {base:Heap} {k:Nat} {f:Addr} {fd:FuncData} {x:Str} {φ:List D→FR} (F:FnG P w K mg base k f fd [x] (spF K mg [false] φ))
  (h:∀ns:List Int,ns.length≤63→(∀z∈ns,Builtin.Int.intBits z≤1048576)→φ [.lst .l (ns.map D.int)]=.ok (.bl true) []):FnG P w K mg base k f fd [x] (JcV K):=by
 refine F.imp fun vs H Q E ⟨a,ns,e,sq,h1,h2,q⟩=>?_
 subst e
 refine⟨[],[.lst .l (ns.map D.int)],[[]],rfl,⟨_,[],_,[],[],[],rfl,rfl,rfl,⟨a,ns.map V.int,[],[],rfl,⟨?_,rfl⟩,JbS ns,.inr rfl,rfl⟩,.inr rfl,⟨rfl,rfl,rfl⟩⟩,by simp,(fun _ z=>nomatch z),?_⟩
 ·exact sq.elim (fun z=>.inl ⟨z,by simp⟩) fun z=>.inr ⟨_,rfl,z⟩
 ·rw[h ns h1 h2]
  intro v H' fp fps _ _ r _ _ _
  obtain⟨rfl,_⟩:=r
  exact q H'
section
variable {P:Program} {w:World} {K:PySem.W.Frag} {mg mb:Str→Option Value} {k:Nat} {fa a:Addr} {fd:FuncData} {x:Str} {t:Shared} {vs:List Value} {ns:List Int}
theorem JdX {H:Hp} (kin:K.In t.heap) (hns:t.heap.Ns mainGlobals mg) (hb:t.heap.Ns builtinsNs mb) (hbb:∀x:Str,x ≠ "__name__" → mb x=bootBuiltins x) (nolim:t.heap.NoLimit) (hg:t.gens=#[])
  (ha:t.heap.get? a=some { cls:=.type "list", data:=.seq vs.toArray }) (hr:Room k callerA) (F:∀base:Heap,K.In base→base.Ns mainGlobals mg→FnG P w K mg base k fa fd [x] (JcV K))
  (hbind:∀(s:Shared) (u:Value),BindsTo s fd ⟨[u],[]⟩ [(x,u)]) (hl:ns.length≤63) (hz:∀z∈ns,Builtin.Int.intBits z≤1048576)
  (hO:Only H) (hS:SqL K H a (ns.map V.int)) (hok:HOk P w H t.heap) (hA:∀b,H b≠none→b=a) (hK:H a≠none→K.lookup a=none) :
  codeAny (model P w) callerA (.call (.ref fa) ⟨[.ref a],[]⟩) (fun r t'=>r=.ok (.ret (.bool true))∧OldK t.heap t'.heap∧t'.os=t.os∧AllBare t'.gens) t:=by
 have only:∀{b:Addr} {u:HO},H b=some u→b=a:=fun {b u} e=>hA b fun z=>by rw[z]at e;cases e
 have notA:∀{b:Addr} {o:Obj} {es:Array DictEntry} {ep:Nat},t.heap.get? b=some o→o.data=.dict es ep→H b=none:=fun {b o es ep} e d=>by
  rcases hH:H b with _ | u
  ·rfl
  ·rw[only hH,ha]at e
   cases e
   exact nomatch (show Data.seq vs.toArray _=Data.dict es ep from d)
 have ns':∀{b:Addr} {m:Str→Option Value},t.heap.Ns b m→(hidT t.heap H).Ns b m:=fun ⟨o,es,ep,e,d,r⟩=>⟨o,es,ep,hidT_get e (notA e d),d,r⟩
 have kin':K.In (hidT t.heap H):=fun b o e=>hidT_get (kin b o e) (by
  rcases hH:H b with _ | u
  ·rfl
  ·have eb:=only hH
   rw[eb]at hH e
   rw[hK (by rw[hH];exact nofun)]at e
   cases e)
 have mo:Mod K mg (hidT t.heap H):=⟨kin',ns' hns,⟨mb,ns' hb,hbb⟩,nolim.elim fun mc h=>⟨mc,ns' h.1,h.2⟩⟩
 have e0:Env0 P w K mg (hidT t.heap H) callerA [] t H:=⟨rfl,mo,fun _ _ e=>of_hidT e,Nat.le_of_eq (hidT_size _ _),trivial,fun b hb=>(List.not_mem_nil (show b∈([]:List Addr) from hb)).elim,hok,.of_eq hg⟩
 refine codeAny_mono ((F _ kin' (ns' hns)).go callerA [] t H ⟨[.ref a],[]⟩ [.ref a] [.ref a] (fun v _=>v=.bl true) (fun _ _ _=>False) hr rfl e0 (hbind t (.ref a)) (.cons rfl .nil) ⟨a,ns,rfl,hS,hl,hz,fun _=>rfl⟩) fun out t' h=>?_
 match out,h with
 | .error e,h =>
  obtain⟨_,_,_,_,_,_,_,_,_,_,_,_,no⟩:=h
  exact no.elim
 | .ok .next,h=>exact h.elim
 | .ok .brk,h=>exact h.elim
 | .ok .cont,h=>exact h.elim
 | .ok (.ret u),h =>
  obtain⟨v,H',os,bare,un,hok',ru,q⟩:=h
  have ev:v=.bl true:=q
  subst ev
  obtain rfl:u=Value.bool true:=ru
  refine⟨rfl,OldK.of_keep fun b o e=>?_,os,bare⟩
  rcases hH:H b with _ | u
  ·exact un.keep b o e hH (fun z=>(List.not_mem_nil (show b∈([]:List Addr) from z)).elim) (by simp)
  ·rcases hO b with z | ⟨ob,xs,z⟩
   ·rw[hH]at z;cases z
   ·obtain⟨e1,_⟩:=hok b _ z
    obtain⟨e2,_⟩:=hok' b _ (un.frzs b ob _ z)
    rw[e]at e1
    cases e1
    exact e2
theorem call_g (kin:K.In t.heap) (hns:t.heap.Ns mainGlobals mg) (hb:t.heap.Ns builtinsNs mb) (hbb:∀x:Str,x ≠ "__name__" → mb x=bootBuiltins x) (nolim:t.heap.NoLimit) (hg:t.gens=#[])
  (ha:t.heap.get? a=some { cls:=.type "list", data:=.seq vs.toArray }) (hi:IntsAre vs ns) (hr:Room k callerA) (F:∀base:Heap,K.In base→base.Ns mainGlobals mg→FnG P w K mg base k fa fd [x] (JcV K))
  (hbind:∀(s:Shared) (u:Value),BindsTo s fd ⟨[u],[]⟩ [(x,u)]) (hl:ns.length≤63) (hz:∀z∈ns,Builtin.Int.intBits z≤1048576) :
  codeAny (model P w) callerA (.call (.ref fa) ⟨[.ref a],[]⟩) (fun r t'=>r=.ok (.ret (.bool true))∧OldK t.heap t'.heap∧t'.os=t.os∧AllBare t'.gens) t:=by
 have rv:=vals_ints hi
 have room:ns.length≤sizeLine:=Nat.le_trans hl (by decide)
 cases hk:K.lookup a with
 | some o =>
  have e:=kin a o hk
  rw[ha]at e
  cases e
  refine JdX (H:=fun _=>none) kin hns hb hbb nolim hg ha hr F hbind hl hz (fun _=>.inl rfl) (.inr ⟨_,vs.toArray,_,hk,rfl,rfl,rfl,?_,by simpa using rv⟩) (fun b u z=>nomatch (show (none:Option HO)=some u from z)) (fun b z=>absurd rfl z) fun z=>absurd rfl z
  rw[List.size_toArray,hi.length];exact room
 | none =>
  let o0:Obj:={ cls:=.type "list", data:=.seq vs.toArray }
  let H0:Hp:=fun b=>if b=a then some (.frz o0 (.lst (ns.map V.int))) else none
  have yes:H0 a=some (.frz o0 (.lst (ns.map V.int))):=if_pos rfl
  have no:∀b,b≠a→H0 b=none:=fun b hb=>if_neg hb
  refine JdX (H:=H0) kin hns hb hbb nolim hg ha hr F hbind hl hz (fun b=>?_) (.inl (.inr ⟨o0,yes⟩)) (fun b u z=>?_) (fun b z=>Classical.byContradiction fun hb=>z (no b hb)) fun _=>hk
  ·by_cases hb:b=a
   ·rw[hb];exact .inr ⟨_,_,yes⟩
   ·exact .inl (no b hb)
  ·by_cases hb:b=a
   ·rw[hb,yes]at z
    cases z
    rw[hb]
    exact⟨ha,by rw[List.length_map];exact room,vs,_,rv,ha⟩
   ·rw[no b hb]at z;cases z
end
end VS
namespace VS
open PySem L2 SeqAt PySem.Spec PyProof.Rows
def Jdo (i:Nat) (cs:CA):CA:=fun env=>match env[i]? with
 | some (some d)=>(cs env).bind fun ds env=>.ok (d::ds) (if d.imm then env else env.set i none)
 | _=>.err
section
variable {X:Cx} {W:WX} {M:List Nat} {es:List Expr} {cs:CA} {pos:Pos}
theorem sao_late (i:Nat) {x:Str} (hr:SAO X W M es cs) (hi:i∉M) (hN:X.N[i]?=some x) (hv:Vis X.env.scope x) (hd:(x == ("__debug__" : Str))=false) (hcd:(x == ("__classdict__" : Str))=false)
  (hs:starEach (.Name x pos::es) X.env=(false,eval (.Name x pos) X.env)::starEach es X.env):SAO X W ([i]++M) (.Name x pos::es) (Jdo i cs):=by
 obtain⟨t2,p2,q2⟩:=hr.go
 refine⟨tCons (tVar i) t2,pa_cons (pe_var hN hv hd hcd) p2 hs,fun C fs env σ H tf Q hC G po=>?_⟩
 unfold Jdo at po
 split at po
 case h_2=>exact po.elim
 rename_i d e1
 obtain⟨v,e2,r⟩:=G.rep i d e1
 refine⟨v,e2,q2 C fs env σ H tf _ hC G ?_⟩
 cases e3:cs env with
 | err=>rw[e3]at po;exact po
 | ex y env' =>
  rw[e3]at po
  exact fun cv dd fs' H' G' s=>po cv dd fs' H' G' (s.weak (fun j hj=>List.mem_append_right _ hj) fun _ z=>z)
 | ok ds env2 =>
  rw[e3]at po
  intro vs fs2 H2 fp2 G2 s2 r2
  have ei:env2[i]?=some (some d):=(s2.e i hi).trans e1
  have rd:Rep C H2 d v (fs2.getD i []):=by rw[s2.f i hi];exact r.keep (fun a ha=>s2.h i hi a ha) s2.m
  have po2:∀vs fs' H' fp,Good C fs' (if d.imm then env2 else env2.set i none) σ H' (fp++tf)→Step ([i]++M) tf fs env H fs' (if d.imm then env2 else env2.set i none) H'→Reps C H' (d::ds) vs fp→Q vs H':=po
  by_cases hm:d.imm=true
  ·simp only[hm,if_true]at po2
   have z:=rd.imm hm
   rw[z]at rd
   exact po2 (v::vs) fs2 H2 fp2 G2 (s2.weak (fun j hj=>List.mem_append_right _ hj) fun _ z=>z) ⟨v,vs,[],fp2,rfl,rd,r2,rfl⟩
  ·simp only[hm]at po2
   have lt:=G2.lt ei
   refine po2 (v::vs) (fs2.set i []) H2 (fs2.getD i []++fp2) (by rw[List.append_assoc];exact G2.mv ei) ⟨s2.t,fun j hj=>?_,fun j hj=>?_,fun j hj a ha=>s2.h j (fun z=>hj (List.mem_append_right _ z)) a ha,s2.m⟩ ⟨v,vs,_,fp2,rfl,rd,r2,rfl⟩
   ·rw[Yt fs2 i j [] lt,if_neg (fun z=>hj (by simp[z]))]
    exact s2.f j fun z=>hj (List.mem_append_right _ z)
   ·rw[if_neg (by simp),List.getElem?_set,if_neg (fun z=>hj (by simp[z]))]
    exact s2.e j fun z=>hj (List.mem_append_right _ z)
end
@[simp] theorem e_late (i:Nat) (cs:CA) (env:Env):Jdo i cs env=match env[i]? with
 | some (some d)=>(cs env).bind fun ds env=>.ok (d::ds) (if d.imm then env else env.set i none)
 | _=>.err:=(rfl)
theorem AOk.fs {C:Ctx} {H:Hp} {σ:L2.St} {Ms Rs:List Nat} {fs fs':FPs} {ownr:List Addr} (h:∀r∈Rs,∀a∈fs.getD r [],a∈fs'.getD r []):∀{avs vs fps},AOk C H σ Ms Rs fs ownr avs vs fps→AOk C H σ Ms Rs fs' ownr avs vs fps
 | [],_,_,x=>x
 | .ro d::as,vs,fps,⟨v,vs',fp,fps',e1,e2,r,i,x⟩=>⟨v,vs',fp,fps',e1,e2,r,fun a ha=>(i a ha).elim .inl fun ⟨r,hr,z⟩=>.inr ⟨r,hr,h r hr a z⟩,AOk.fs h x⟩
 | .ow d wb::as,vs,fps,⟨v,vs',fp,fps',e1,e2,r,i,x⟩=>⟨v,vs',fp,fps',e1,e2,r,i,AOk.fs h x⟩
end VS
namespace VS
open PySem L2 SeqAt PySem.Spec PyProof.Rows
def cFix (c:CE):CE:=fun env=>(c env).bind fun d env=>.ok d.fix env
structure Fz (S:List Addr) (H H':Hp):Prop where
 o:∀a,a∉S→H' a=H a
 i:∀a,a∈S→∃od u,H a=some u∧Mutb u∧H' a=some (.frz od u)
theorem Fz.mono {S:List Addr} {H H':Hp} (z:Fz S H H'):Mono H H':=by
 refine⟨?_,?_,fun a o k e=>?_⟩
 rotate_left 2
 ·by_cases ha:a∈S
  ·obtain⟨_,u,e1,mu,_⟩:=z.i a ha
   rw[e]at e1;cases e1;exact(k.nm mu).elim
  ·rw[z.o a ha];exact e
 ·intro a xs e
  by_cases ha:a∈S
  ·obtain⟨_,u,e1,mu,_⟩:=z.i a ha
   rw[e]at e1;cases e1;exact mu.elim
  ·rw[z.o a ha];exact e
 ·intro a o u e
  by_cases ha:a∈S
  ·obtain⟨_,u',e1,mu,_⟩:=z.i a ha
   rw[e]at e1;cases e1;exact mu.elim
  ·rw[z.o a ha];exact e
section
variable {C:Ctx} {H H':Hp} {S:List Addr}
theorem Jda (z:Fz S H H') (lk:∀a∈C.Lk,∃ob u,H a=some (.frz ob u)) {g a u fp} (n:Nd C H g a u fp) (hs:∀b∈fp,b∈S):Nd C H' g.fix a u []:=by
 cases g with
 | m =>
  obtain⟨e,rfl⟩:=n
  obtain⟨od,u',e1,mu,e2⟩:=z.i a (hs a (by simp))
  rw[e]at e1;cases e1
  refine⟨⟨od,e2⟩,fun hl=>?_,rfl⟩
  obtain⟨ob,w,q⟩:=lk a hl
  rw[e]at q;cases q;exact mu
 | l=>obtain⟨h,e⟩:=n;exact⟨h,rfl⟩
 | f=>obtain⟨⟨o,e⟩,x,_⟩:=n;exact⟨⟨o,z.mono.z _ _ _ e⟩,x,rfl⟩
 | k=>obtain⟨⟨o,e⟩,_⟩:=n;exact⟨⟨o,z.mono.z _ _ _ e⟩,rfl⟩
mutual
theorem Rep.fixR (z:Fz S H H') (lk:∀a∈C.Lk,∃ob u,H a=some (.frz ob u)):∀{d:D} {v:V} {fp:List Addr},Rep C H d v fp→(∀b∈fp,b∈S)→Rep C H' d.fix v []
 | .non,v,fp,h,_=>⟨h.1,rfl⟩
 | .bl b,v,fp,h,_=>⟨h.1,rfl⟩
 | .int i,v,fp,h,_=>⟨h.1,rfl⟩
 | .str s,v,fp,h,_=>⟨h.1,rfl⟩
 | .ty s,v,fp,h,_=>⟨h.1,rfl⟩
 | .tup ds,v,fp,⟨a,vs,e,t,r⟩,hs=>⟨a,vs,e,QP t z.mono,Reps.fixR z lk r hs⟩
 | .ftu ds,v,fp,⟨a,vs,e,t,r⟩,hs=>⟨a,vs,e,t.keep z.mono,Reps.fixR z lk r hs⟩
 | .lst g ds,v,fp,⟨a,vs,f1,f2,e,n,r,q,e2⟩,hs=>⟨a,vs,[],[],e,Jda z lk n (fun b hb=>hs b (by rw[e2];exact List.mem_append_left _ hb)),Reps.fixR z lk r (fun b hb=>hs b (by rw[e2];exact List.mem_append_right _ hb)),.inr rfl,rfl⟩
 | .dct g ks ds,v,fp,⟨a,vs,f1,f2,e,n,q,r,q2,e2⟩,hs=>⟨a,vs,[],[],e,Jda z lk n (fun b hb=>hs b (by rw[e2];exact List.mem_append_left _ hb)),q,Reps.fixR z lk r (fun b hb=>hs b (by rw[e2];exact List.mem_append_right _ hb)),.inr rfl,rfl⟩
 | .obj g c ns ds,v,fp,⟨a,Ca,dx,fls,f1,f2,e,c1,n,q,r,q2,e2⟩,hs=>⟨a,Ca,dx,fls,[],[],e,c1,Jda z lk n (fun b hb=>hs b (by rw[e2];exact List.mem_append_left _ hb)),q,Reps.fixR z lk r (fun b hb=>hs b (by rw[e2];exact List.mem_append_right _ hb)),.inr rfl,rfl⟩
 | .exc c ns ds,v,fp,⟨a,Ca,d,fls,e,c1,n,x,q,r,e2⟩,hs=>⟨a,Ca,d,fls,e,c1,z.mono.x _ _ trivial n,x.mono z.mono,q,Reps.keep r (fun b hb=>nomatch hb) z.mono,rfl⟩
theorem Reps.fixR (z:Fz S H H') (lk:∀a∈C.Lk,∃ob u,H a=some (.frz ob u)):∀{ds:List D} {vs:List V} {fp:List Addr},Reps C H ds vs fp→(∀b∈fp,b∈S)→Reps C H' (fixs ds) vs []
 | [],vs,fp,h,_=>⟨h.1,rfl⟩
 | d::ds,vs,fp,⟨v,vs',f1,f2,e,r,rs,e2⟩,hs=>⟨v,vs',[],[],e,Rep.fixR z lk r (fun b hb=>hs b (by rw[e2];exact List.mem_append_left _ hb)),Reps.fixR z lk rs (fun b hb=>hs b (by rw[e2];exact List.mem_append_right _ hb)),rfl⟩
end
theorem Good.fix {fs:FPs} {env:Env} {σ:L2.St} {tf fp:List Addr} (G:Good C fs env σ H (fp++tf)) (z:Fz fp H H'):Good C fs env σ H' tf∧∀M,Step M tf fs env H fs env H':=by
 have p:(fs.flatten++(fp++tf)).Perm (fp++(fs.flatten++tf)):=by
  rw[←List.append_assoc,←List.append_assoc];exact List.perm_append_comm.append_right _
 have nd:=p.nodup_iff.mp G.nd
 have apart:∀a∈fs.flatten++tf,a∉fp:=fun a ha hb=>(List.nodup_append.mp nd).2.2 a hb a ha rfl
 have same:∀a∈fs.flatten++tf,H' a=H a:=fun a ha=>z.o a (apart a ha)
 have m:=z.mono
 have sub:∀a∈fs.flatten++tf,a∈fs.flatten++(fp++tf):=fun a ha=>by
  rcases List.mem_append.mp ha with q | q
  ·exact List.mem_append_left _ q
  ·exact List.mem_append_right _ (List.mem_append_right _ q)
 refine⟨⟨G.le,G.lf,fun i d e=>?_,(List.nodup_append.mp nd).2.1,fun a ha=>G.own a (sub a ha),fun a ha=>?_,fun a o e na=>?_,fun a ha=>?_⟩,fun M=>⟨fun a ha=>same a (List.mem_append_right _ ha),fun _ _=>rfl,fun _ _=>rfl,fun i _ a ha=>same a (List.mem_append_left _ (UD ha)),m⟩⟩
 ·obtain⟨v,e1,r⟩:=G.rep i d e
  exact⟨v,e1,r.keep (fun a ha=>same a (List.mem_append_left _ (UD ha))) m⟩
 ·rw[same a ha];exact G.trk a (sub a ha)
 ·have nf:a∉fp:=fun ha=>by
   rcases G.own a (List.mem_append_right _ (List.mem_append_left _ ha)) with q | q
   ·exact na q
   ·rw[q]at e;cases e
  rw[z.o a nf];exact G.fr a o e na
 ·obtain⟨ob,u,e⟩:=G.lk a ha
  exact⟨ob,u,m.z _ _ _ e⟩
end
def FzQ:List Addr→Hp→(Hp→Prop)→Prop
 | [],H,Q=>Q H
 | a::as,H,Q=>∃u,H a=some u∧Mut (some u)∧∀od,FzQ as (L2.upd H a (.frz od u)) Q
theorem mut_of {u:HO} (h:Mutb u):Mut (some u):=by cases u<;>first | trivial | exact h.elim
theorem Jc8:∀{as:List Addr} {H:Hp} {Q:Hp→Prop},as.Nodup→(∀a∈as,∃o,H a=some o∧Mutb o)→(∀H',Fz as H H'→Q H')→FzQ as H Q
 | [],H,Q,_,_,h=>h H ⟨fun _ _=>rfl,fun _ z=>nomatch z⟩
 | a::as,H,Q,nd,tk,h=>by
  obtain⟨na,nd'⟩:=List.nodup_cons.mp nd
  obtain⟨u,e,mu⟩:=tk a (by simp)
  refine⟨u,e,mut_of mu,fun od=>Jc8 nd' (fun b hb=>?_) fun H' z=>h H' ⟨fun b hb=>?_,fun b hb=>?_⟩⟩
  ·have:b≠a:=fun q=>na (q ▸ hb)
   obtain⟨o,e2,m2⟩:=tk b (by simp[hb])
   exact⟨o,by rw[upd_ne this];exact e2,m2⟩
  ·simp only[List.mem_cons,not_or]at hb
   rw[z.o b hb.2,upd_ne hb.1]
  ·rcases List.mem_cons.mp hb with q | q
   ·subst q
    exact⟨od,u,e,mu,by rw[z.o b na];exact upd_same⟩
   ·have:b≠a:=fun r=>na (r ▸ q)
    obtain⟨od2,u2,e2,m2,e3⟩:=z.i b q
    rw[upd_ne this]at e2
    exact⟨od2,u2,e2,m2,e3⟩
section
variable {X:Cx} {W:WX} {M:List Nat} {e:Expr} {c:CE}
theorem Jci {pins:List (Addr × Obj)} {σ:L2.St} {s:Shared}:∀{as:List Addr} {H:Hp} {Q:Hp→Prop},L2.Inv X pins σ H s→FzQ as H Q→∃H',L2.Inv X pins σ H' s∧Q H'
 | [],H,Q,I,h=>⟨H,I,h⟩
 | a::as,H,Q,I,⟨u,e,mu,h⟩=>by
  obtain⟨od,I1⟩:=I.lock e mu
  exact Jci I1 (h od)
theorem pe_fix {t:TE} (h:PE X e t):PE X e (fun σ H Q=>t σ H fun v H1=>∃as,FzQ as H1 (Q v)):=by
 refine⟨fun pins s σ H Q I hw=>thn (h.run pins s σ H _ I hw) fun u s1 ⟨v,H1,I1,r,as,q⟩=>?_⟩
 obtain⟨H2,I2,q2⟩:=Jci I1 q
 exact⟨v,H2,I2,r,q2⟩
theorem UT (h:SO X W M e c):SO X W M e (cFix c):=by
 obtain⟨t,p,q⟩:=h.go
 refine⟨_,pe_fix p,fun C fs env σ H tf Q hC G po=>?_⟩
 show t σ H fun v H1=>_
 refine q C fs env σ H tf _ hC G ?_
 unfold cFix at po
 cases e1:c env with
 | err=>rw[e1]at po;exact po
 | ex x env'=>rw[e1]at po;exact po
 | ok d env1 =>
  rw[e1]at po
  intro v fs1 H1 fp G1 s1 r
  have nd:fp.Nodup:=(List.nodup_append.mp (List.nodup_append.mp G1.nd).2.1).1
  refine⟨fp,Jc8 nd (fun a ha=>r.trk a ha) fun H2 z=>?_⟩
  obtain⟨G2,s2⟩:=G1.fix z
  have st:Step M tf fs env H fs1 env1 H2:=by
   have:=s1.trans (s2 [])
   simpa using this
  exact po v fs1 H2 [] (by simpa using G2) st (r.fixR z G1.lk fun b hb=>hb)
end
@[simp] theorem e_fix (c:CE) (env:Env):cFix c env=(c env).bind fun d env=>.ok d.fix env:=(rfl)
@[simp] theorem fixs_nil:fixs []=[]:=(rfl)
@[simp] theorem Jb1 (d:D) (ds:List D):fixs (d::ds)=d.fix::fixs ds:=(rfl)
@[simp] theorem Jcx (ds:List D):(D.lst .m ds).fix=.lst .f (fixs ds):=(rfl)
@[simp] theorem fix_lstf (ds:List D):(D.lst .f ds).fix=.lst .f (fixs ds):=(rfl)
@[simp] theorem fix_tup (ds:List D):(D.tup ds).fix=.tup (fixs ds):=(rfl)
@[simp] theorem fix_int (i:Int):(D.int i).fix=.int i:=(rfl)
@[simp] theorem fix_str (i:Str):(D.str i).fix=.str i:=(rfl)
@[simp] theorem fix_bl (i:Bool):(D.bl i).fix=.bl i:=(rfl)
@[simp] theorem fix_non:D.non.fix=.non:=(rfl)
@[simp] theorem fix_dctm (ks:List Key) (ds:List D):(D.dct .m ks ds).fix=.dct .f ks (fixs ds):=(rfl)
theorem UP {α:Type} {f:α→D} (h:∀x,(f x).fix=f x):∀xs:List α,fixs (xs.map f)=xs.map f
 | []=>rfl
 | x::xs=>by rw[List.map_cons,Jb1,h,UP h xs]
end VS
namespace VS
open PySem L2 SeqAt PySem.Spec PyProof.Rows
def Jdu (i:Nat) (c:CS):CS:=fun env=>match env[i]? with
 | some (some d)=>c (env.set i (some d.fix))
 | _=>.err
section
variable {X:Cx} {W:WX} {M Vs:List Nat} {st:Stmt} {sts:List Stmt} {c:CS}
theorem fix_slot {C:Ctx} {fs:FPs} {env:Env} {σ:L2.St} {H:Hp} {tf:List Addr} {i:Nat} {d:D} (G:Good C fs env σ H tf) (e:env[i]?=some (some d)):(fs.getD i []).Nodup∧(∀a∈fs.getD i [],∃o,H a=some o∧Mutb o) ∧
  ∀H',Fz (fs.getD i []) H H'→Good C (fs.set i []) (env.set i (some d.fix)) σ H' tf∧StepS [i] [] tf fs env σ H (fs.set i []) (env.set i (some d.fix)) σ H':=by
 have lt:=G.lt e
 have le:i < env.length:=(List.getElem?_eq_some_iff.mp e).1
 have G1:=G.mv e
 obtain⟨v,ev,r⟩:=G.rep i d e
 refine⟨(List.nodup_append.mp (List.nodup_append.mp G1.nd).2.1).1,fun a ha=>r.trk a ha,fun H' z=>?_⟩
 obtain⟨G2,s2⟩:=G1.fix z
 have rf:=r.fixR z G.lk fun b hb=>hb
 refine⟨⟨by simpa using G.le,G2.lf,fun j dj ej=>?_,G2.nd,G2.own,G2.trk,G2.fr,G2.lk⟩,⟨⟨(s2 []).t,fun j hj=>?_,fun j hj=>?_,fun j hj a ha=>?_,(s2 []).m⟩,fun _ _=>rfl⟩⟩
 ·rw[List.getElem?_set]at ej
  by_cases hj:i=j
  ·subst hj
   simp[le]at ej
   subst ej
   refine⟨v,ev,?_⟩
   rw[Yt fs i i [] lt,if_pos rfl];exact rf
  ·rw[if_neg hj]at ej
   exact G2.rep j dj (by rw[List.getElem?_set,if_neg hj];exact ej)
 ·rw[Yt fs i j [] lt,if_neg (by simpa using hj)]
 ·rw[List.getElem?_set,if_neg (by intro q;subst q;simp at hj)]
 ·refine (s2 []).h j (by simp) a ?_
  rw[Yt fs i j [] lt,if_neg (by simpa using hj)];exact ha
theorem ps_fix {t:TS} (h:PS X st t):PS X st (fun E σ H=>∃as,FzQ as H fun H'=>t E σ H'):=by
 refine⟨fun pins s σ H E I ⟨as,q⟩=>?_⟩
 obtain⟨H2,I2,q2⟩:=Jci I q
 exact h.run pins s σ H2 E I2 q2
theorem ss_fixB (i:Nat) (h:SS X W M Vs st c):SS X W ([i]++M) ([]++Vs) st (Jdu i c):=by
 obtain⟨t,p,q⟩:=h.go
 refine⟨_,ps_fix p,fun C fs env σ H tf E hC G po=>?_⟩
 unfold Jdu at po
 split at po
 case h_2=>exact po.elim
 rename_i d e
 obtain⟨nd,tk,fin⟩:=fix_slot G e
 refine⟨fs.getD i [],Jc8 nd tk fun H' z=>?_⟩
 obtain⟨G2,s2⟩:=fin H' z
 exact q C _ _ σ H' tf E hC G2 (UU.step s2 po)
end
@[simp] theorem e_fixB (i:Nat) (c:CS) (env:Env):Jdu i c env=match env[i]? with
 | some (some d)=>c (env.set i (some d.fix))
 | _=>.err:=(rfl)
end VS
namespace VS
open PySem L2 SeqAt PySem.Spec PyProof.Rows
section
variable {α β:Type} (env:Env) (i j:Nat) (c ca cb cc cd:CE) (cs:CA) (ct:CT) (ta tb:CT) (d:D) (p q:D→D→Option D) (p1:D→Option D) (pl:List D→Option D) (s1 s2:CS) (g:D→Env→Option Env) (cn f m:Str) (cl:CL) (cr:Env→R (List AV)) (φ:List D→FR)
@[simp] theorem e_pairs0:Jbo [] env=.ok [] env:=(rfl)
@[simp] theorem e_pairs1 (r:List (CE × CE)):Jbo ((ca,cb)::r) env=(ca env).bind fun dk env=>(cb env).bind fun dv env=>(Jbo r env).bind fun ps env=>match dk.key with
  | some ky=>.ok ((ky,dv)::ps) env
  | none=>.err:=(rfl)
@[simp] theorem e_gsub (x:D):Ql i cl cb x env=match cl env with
 | .ok dF env1=>match cb env1 with
  | .ok y env2=>(stD dF.1 y x).map fun d'=>env2.set i (some (dF.2 d'))
  | _=>none
 | _=>none:=(rfl)
@[simp] theorem e_keyI (i:Int):(D.int i).key=some (.inl i):=(rfl)
@[simp] theorem e_keyS (s:Str):(D.str s).key=some (.inr s):=(rfl)
@[simp] theorem e_nol7 (ks:List Key) (ds:List D):(D.dct .m ks ds).nol=nols ds:=(rfl)
@[simp] theorem e_nol8 (c:Str) (ns:List Str) (ds:List D):(D.obj .m c ns ds).nol=nols ds:=(rfl)
@[simp] theorem e_nol9 (ds:List D):(D.lst .f ds).nol=nols ds:=(rfl)
@[simp] theorem e_imm7 (g:Fl) (ks:List Key) (ds:List D):(D.dct g ks ds).imm=((g == .l || g == .f) && imms ds):=(rfl)
@[simp] theorem e_imm8 (g:Fl) (c:Str) (ns:List Str) (ds:List D):(D.obj g c ns ds).imm=((g == .l || g == .f) && imms ds):=(rfl)
@[simp] theorem e_lend8 (ks:List Key) (ds:List D):(D.dct .m ks ds).lend=.dct .l ks (lends ds):=(rfl)
@[simp] theorem e_lend9 (ks:List Key) (ds:List D):(D.dct .l ks ds).lend=.dct .l ks (lends ds):=(rfl)
@[simp] theorem e_lend10 (c:Str) (ns:List Str) (ds:List D):(D.obj .m c ns ds).lend=.obj .l c ns (lends ds):=(rfl)
@[simp] theorem e_lend11 (c:Str) (ns:List Str) (ds:List D):(D.obj .l c ns ds).lend=.obj .l c ns (lends ds):=(rfl)
@[simp] theorem fl1:(Fl.m == Fl.l)=false:=(rfl)
@[simp] theorem fl2:(Fl.m == Fl.f)=false:=(rfl)
@[simp] theorem fl3:(Fl.l == Fl.l)=true:=(rfl)
@[simp] theorem fl4:(Fl.l == Fl.f)=false:=(rfl)
@[simp] theorem fl5:(Fl.f == Fl.f)=true:=(rfl)
@[simp] theorem fl6:(Fl.f == Fl.l)=false:=(rfl)
@[simp] theorem e_ltG (i j:Int):pLtG (.int i) (.int j)=some (.bl (decide (i < j))):=(rfl)
@[simp] theorem e_gtG (i j:Int):pGtG (.int i) (.int j)=some (.bl (decide (j < i))):=(rfl)
@[simp] theorem e_geG (i j:Int):pGeG (.int i) (.int j)=some (.bl (decide (j≤i))):=(rfl)
@[simp] theorem e_minG (i j:Int):JcM [.int i,.int j]=some (.int (if j < i then j else i)):=(rfl)
@[simp] theorem e_dictG1 (g:Fl) (ks:List Key) (ds:List D):ZS [.dct g ks ds]=if imms ds then some (.dct .m ks ds) else none:=(rfl)
@[simp] theorem Jbs (g:Fl) (ds:List D):ZS [.lst g ds]=Jbf [.lst g ds]:=(rfl)
@[simp] theorem e_len3 (g:Fl) (ks:List Key) (ds:List D):pLen [.dct g ks ds]=some (.int ks.length):=(rfl)
@[simp] theorem e_len4 (z:Str):pLen [.str z]=if z.length≤sizeLine then some (.int z.length) else none:=(rfl)
@[simp] theorem e_ix3 (g:Fl) (ks:List Key) (ds:List D) (y:D):ixD (.dct g ks ds) y=y.key.bind fun k=>Uq ks ds k:=by
 cases y<;>rfl
@[simp] theorem Ut {α:Type} {f:α→D} (h:∀x,(f x).imm=true):∀xs:List α,imms (xs.map f)=true
 | []=>rfl
 | x::xs=>by simp[h x,Ut h xs]
@[simp] theorem Jau {α:Type} {f:α→D} (h:∀x,(f x).lend=f x):∀xs:List α,lends (xs.map f)=xs.map f
 | []=>rfl
 | x::xs=>by simp[h x,Jau h xs]
@[simp] theorem QT {α:Type} {f:α→D} (h:∀x,(f x).nol=true):∀xs:List α,nols (xs.map f)=true
 | []=>rfl
 | x::xs=>by simp[h x,QT h xs]
@[simp] theorem imms_app:∀(xs ys:List D),imms (xs++ys)=(imms xs && imms ys)
 | [],ys=>by simp
 | x::xs,ys=>by simp[imms_app xs ys,Bool.and_assoc]
@[simp] theorem nols_app:∀(xs ys:List D),nols (xs++ys)=(nols xs && nols ys)
 | [],ys=>by simp
 | x::xs,ys=>by simp[nols_app xs ys,Bool.and_assoc]
@[simp] theorem lends_app:∀(xs ys:List D),lends (xs++ys)=lends xs++lends ys
 | [],ys=>by simp
 | x::xs,ys=>by simp[lends_app xs ys]
end
section
variable {κ:Type} [DecidableEq κ] (kf:κ→Key) (hk:∀a b,kf a=kf b→a=b)
def up1 (g:κ→D) (n:κ) (x:D):κ→D:=fun m=>if m=n then x else g m
include hk
theorem JcZ:∀(ns:List κ) (g:κ→D) (n:κ),Uq (ns.map kf) (ns.map g) (kf n)=if n∈ns then some (g n) else none
 | [],g,n=>by simp[Uq]
 | m::ns,g,n=>by
  simp only[List.map_cons,Uq]
  by_cases h:m=n
  ·subst h;simp
  ·rw[if_neg (fun z=>h (hk _ _ z)),JcZ ns g n]
   have:n≠m:=fun z=>h z.symm
   simp[this]
theorem Jcr:∀(ns:List κ) (n:κ),idxK (ns.map kf) (kf n)=if n∈ns then some (ns.findIdx (· == n)) else none
 | [],n=>by simp[idxK]
 | m::ns,n=>by
  simp only[List.map_cons,idxK]
  by_cases h:m=n
  ·subst h;simp[List.findIdx_cons]
  ·rw[if_neg (fun z=>h (hk _ _ z)),Jcr ns n]
   have h2:n≠m:=fun z=>h z.symm
   by_cases h3:n∈ns
   ·have hb:(m == n)=false:=by simpa using h
    simp[h3,List.findIdx_cons,hb]
   ·simp[h3,h2]
omit hk in
theorem JcI:∀(ns:List κ) (g:κ→D) (n:κ) (x:D),ns.Nodup→n∈ns→(ns.map g).set (ns.findIdx (· == n)) x=ns.map (up1 g n x)
 | [],g,n,x,_,h=>by cases h
 | m::ns,g,n,x,nd,h=>by
  have nd':=List.nodup_cons.mp nd
  by_cases e:m=n
  ·subst e
   have:ns.map g=ns.map (up1 g m x):=List.map_congr_left fun y hy=>by
    have:y≠m:=fun z=>nd'.1 (z ▸ hy)
    simp[up1,this]
   simp[List.findIdx_cons,up1,this]
  ·have h2:n∈ns:=(List.mem_cons.mp h).resolve_left fun z=>e z.symm
   have ih:=JcI ns g n x nd'.2 h2
   have hb:(m == n)=false:=by simpa using e
   simp[List.findIdx_cons,hb,ih,up1,e]
end
section
variable {ns:List Str} {g:Str→D} {n:Str} {x:D} {fl:Fl}
theorem JaW:∀a b:Str,(Sum.inr a:Key)=Sum.inr b→a=b:=fun a b h=>by cases h;rfl
@[simp] theorem JdP:Uq (ns.map Sum.inr) (ns.map g) (Sum.inr n)=if n∈ns then some (g n) else none:=JcZ Sum.inr JaW ns g n
end
end VS
namespace VS
open PySem
abbrev J:=Str × Str × Int
inductive Reach (js:List J):Str→Str→Int→Prop
 | refl (a:Str):Reach js a a 0
 | fwd {a b c:Str} {o s:Int}:Reach js a b o→(b,c,s)∈js→Reach js a c (o+s)
 | bwd {a b c:Str} {o s:Int}:Reach js a b o→(c,b,s)∈js→Reach js a c (o - s)
def Conn (js:List J) (a b:Str):Prop:=∃o,Reach js a b o
section
variable {js js':List J} {a b c:Str} {o o' s:Int}
theorem Reach.trans (h:Reach js a b o) (h':Reach js b c o'):Reach js a c (o+o'):=by
 induction h' with
 | refl=>simpa using h
 | fwd r m ih=>have:=Reach.fwd (ih) m;rwa[Int.add_assoc]at this
 | bwd r m ih=>have:=Reach.bwd (ih) m;rwa[Int.add_sub_assoc]at this
theorem Reach.symm (h:Reach js a b o):Reach js b a (-o):=by
 induction h with
 | refl=>exact .refl _
 | @fwd b c o s r m ih =>
  have:=(Reach.bwd (.refl c) m).trans ih
  have e:(0:Int) - s+-o=-(o+s):=by omega
  rwa[e]at this
 | @bwd b c o s r m ih =>
  have:=(Reach.fwd (.refl c) m).trans ih
  have e:(0:Int)+s+-o=-(o - s):=by omega
  rwa[e]at this
theorem Reach.mono (h:Reach js a b o) (hm:∀j∈js,j∈js'):Reach js' a b o:=by
 induction h with
 | refl=>exact .refl _
 | fwd r m ih=>exact .fwd ih (hm _ m)
 | bwd r m ih=>exact .bwd ih (hm _ m)
theorem Reach.one (m:(a,b,s)∈js):Reach js a b s:=by have:=Reach.fwd (.refl a) m;simpa using this
theorem Conn.refl (a:Str):Conn js a a:=⟨0,.refl a⟩
theorem Conn.symm (h:Conn js a b):Conn js b a:=h.elim fun o r=>⟨-o,r.symm⟩
theorem Conn.trans (h:Conn js a b) (h':Conn js b c):Conn js a c:=h.elim fun o r=>h'.elim fun o' r'=>⟨o+o',r.trans r'⟩
theorem Conn.mono (h:Conn js a b) (hm:∀j∈js,j∈js'):Conn js' a b:=h.elim fun o r=>⟨o,r.mono hm⟩
theorem JbY {x y:Str}:Conn (js++[(a,b,s)]) x y↔Conn js x y∨(Conn js x a∧Conn js b y)∨(Conn js x b∧Conn js a y):=by
 constructor
 ·rintro ⟨o,r⟩
  induction r with
  | refl=>exact .inl (.refl _)
  | @fwd p q o s' r m ih =>
   rcases List.mem_append.mp m with m | m
   ·have h1:Conn js p q:=⟨_,.one m⟩
    rcases ih with h | ⟨h,h'⟩ | ⟨h,h'⟩
    ·exact .inl (h.trans h1)
    ·exact .inr (.inl ⟨h,h'.trans h1⟩)
    ·exact .inr (.inr ⟨h,h'.trans h1⟩)
   ·simp at m
    obtain⟨rfl,rfl,rfl⟩:=m
    rcases ih with h | ⟨h,h'⟩ | ⟨h,h'⟩
    ·exact .inr (.inl ⟨h,.refl _⟩)
    ·exact .inr (.inl ⟨h,.refl _⟩)
    ·exact .inl h
  | @bwd p q o s' r m ih =>
   rcases List.mem_append.mp m with m | m
   ·have h1:Conn js p q:=Conn.symm ⟨_,.one m⟩
    rcases ih with h | ⟨h,h'⟩ | ⟨h,h'⟩
    ·exact .inl (h.trans h1)
    ·exact .inr (.inl ⟨h,h'.trans h1⟩)
    ·exact .inr (.inr ⟨h,h'.trans h1⟩)
   ·simp at m
    obtain⟨rfl,rfl,rfl⟩:=m
    rcases ih with h | ⟨h,h'⟩ | ⟨h,h'⟩
    ·exact .inr (.inr ⟨h,.refl _⟩)
    ·exact .inl h
    ·exact .inr (.inr ⟨h,.refl _⟩)
 ·have hm:∀j∈js,j∈js++[(a,b,s)]:=fun j h=>List.mem_append_left _ h
  have h1:Conn (js++[(a,b,s)]) a b:=⟨s,.one (by simp)⟩
  rintro (h | ⟨h,h'⟩ | ⟨h,h'⟩)
  ·exact h.mono hm
  ·exact(h.mono hm).trans (h1.trans (h'.mono hm))
  ·exact(h.mono hm).trans (h1.symm.trans (h'.mono hm))
def cnt (t n:Int):Int:=if t=0 then n else n % t
def Jex (ns:List Str) (js:List J):Prop:=∀a b s,(a,b,s)∈js→a∈ns∧b∈ns
theorem Reach.mem {ns:List Str} (w:Jex ns js) (h:Reach js a b o) (ha:a∈ns):b∈ns:=by
 induction h with
 | refl=>exact ha
 | fwd r m ih=>exact(w _ _ _ m).2
 | bwd r m ih=>exact(w _ _ _ m).1
theorem Conn.mem {ns:List Str} (w:Jex ns js) (h:Conn js a b) (ha:a∈ns):b∈ns:=h.elim fun _ r=>r.mem w ha
end
end VS
namespace VS
open PySem L2 SeqAt PySem.Spec PyProof.Rows
theorem JaY {α:Type} {f:α→D} {xs:List α} {r:Int} (h0:0≤r) (h1:r < xs.length):∃(x:α),x∈xs∧xs[r.toNat]?=some x∧atI (xs.map f) r=some (f x):=by
 have hn:r.toNat < xs.length:=by omega
 have e:r=((r.toNat:Nat):Int):=by omega
 have e2:=UY (xs:=xs.map f) (k:=r.toNat) (by simpa using hn)
 rw[←e]at e2
 exact⟨xs[r.toNat],List.getElem_mem hn,by simp[hn],by rw[e2];simp[hn]⟩
theorem putP_new {ks:List Key} {ds:List D} {k:Key} {x:D} (h:k∉ks):putP (ks,ds) k x=(ks++[k],ds++[x]):=by
 unfold putP
 have:idxK ks k=none:=by
  cases q:idxK ks k with
  | none=>rfl
  | some j=>exact absurd (List.mem_of_getElem? (Jbj q)) h
 simp[this]
theorem Jee:∀(ps:List (Key × D)) (kd:List Key × List D),(kd.1++ps.map (·.1)).Nodup→ps.foldl (fun acc p=>putP acc p.1 p.2) kd=(kd.1++ps.map (·.1),kd.2++ps.map (·.2))
 | [],kd,_=>by simp
 | p::ps,kd,h=>by
  have hp:p.1∉kd.1:=fun z=>(List.nodup_append.mp h).2.2 p.1 z p.1 (by simp) rfl
  have e:=putP_new (ds:=kd.2) (x:=p.2) hp
  have e':putP kd p.1 p.2=(kd.1++[p.1],kd.2++[p.2]):=e
  rw[List.foldl_cons,e',Jee ps _ (by simpa using h)]
  simp
theorem Jcf (s:Str):pyO (.str s)=.str s:=rfl
theorem Jbg:∀ns:List Str,pys (ns.map D.str)=some (ns.map PyData.str)
 | []=>rfl
 | n::ns=>by simp[pys,D.py,Jbg ns]
theorem JaL {ns:List Str} (h:ns.length≤1000):Jag (ns.map D.str)=true:=by
 unfold Jag
 simp only[Bool.and_eq_true]
 refine⟨⟨⟨⟨⟨by rw[Jbg];rfl,by simp⟩,?_⟩,?_⟩,?_⟩,by simpa using Yr h⟩
 ·simp[Jav,Jcf,PySem.W.alike]
 ·simp[Zy,Jcf]
 ·simp[Qm,Jcf,PyData.depth]
def leS (a b:Str):Bool:=leD (.str a) (.str b)
def Yq (ns:List Str):List Str:=ns.mergeSort leS
theorem YN (ns:List Str):(Yq ns).Perm ns:=List.mergeSort_perm _ _
theorem ZN {g:Fl} {ns:List Str} (h:ns.length≤1000):JV [.lst g (ns.map D.str)]=some (.lst .m ((Yq ns).map D.str)):=by
 unfold JV
 simp only[JdR,Option.bind_some,JaL h,if_true]
 unfold Yq
 rw[List.map_mergeSort (f:=D.str) (r:=leS) (s:=leD) fun a _ b _=>rfl]
theorem sortG_tups {ns:List Str} (h:ns.length≤1000):JV [.tup (ns.map D.str)]=some (.lst .m ((Yq ns).map D.str)):=by
 unfold JV
 simp only[JdR,Option.bind_some,JaL h,if_true]
 unfold Yq
 rw[List.map_mergeSort (f:=D.str) (r:=leS) (s:=leD) fun a _ b _=>rfl]
end VS
namespace VS
open PySem L2 SeqAt PySem.Spec PyProof.Rows
theorem JaN {n:Nat} (h:n≤1000000):n < sizeLine :=
 have e:sizeLine=16777216:=by decide +kernel
 by omega
theorem UG {n:Nat} (h:n≤1000000):n≤sizeLine:=Nat.le_of_lt (JaN h)
theorem Qo {α:Type} {f:α→D} {g:D→Env→Option Env} {body:CS} (P:List α→Env→Prop) (h:∀x xs env,P (x::xs) env→∃env1 env2,g (f x) env=some env1∧body env1=.nx env2∧P xs env2):∀(xs:List α) (env:Env),P xs env→∃env',YJ g body (xs.map f) env=.nx env'∧P [] env'
 | [],env,h0=>⟨env,rfl,h0⟩
 | x::xs,env,h0=>by
  obtain⟨env1,env2,h1,h2,h3⟩:=h x xs env h0
  obtain⟨env',k1,k2⟩:=Qo P h xs env2 h3
  exact⟨env',by rw[List.map_cons,Jdd h1 h2];exact k1,k2⟩
section
variable {κ:Type} [DecidableEq κ] (kf:κ→Key) (hk:∀a b,kf a=kf b→a=b)
include hk
theorem put_new {ns:List κ} {g:κ→D} {n:κ} {x:D} (h:n∉ns):putD (ns.map kf) (ns.map g) (kf n) x=.dct .m ((ns++[n]).map kf) ((ns++[n]).map (up1 g n x)):=by
 unfold putD
 rw[Jcr kf hk,if_neg h]
 simp only[List.map_append,List.map_cons,List.map_nil]
 have e:ns.map (up1 g n x)=ns.map g:=List.map_congr_left fun y hy=>by
  have:y≠n:=fun z=>h (z ▸ hy)
  simp[up1,this]
 rw[e];simp[up1]
end
theorem st_new {ns:List Str} {g:Str→D} {n:Str} {x:D} (h:n∉ns) (hl:ns.length < sizeLine):stD (.dct .m (ns.map Sum.inr) (ns.map g)) (.str n) x=some (.dct .m ((ns++[n]).map Sum.inr) ((ns++[n]).map (up1 g n x))):=by
 have:=put_new Sum.inr JaW (g:=g) (x:=x) h
 simp only[stD,e_keyS,Option.bind_some,List.length_map,hl,if_true,Option.map_some,this]
@[simp] theorem isi_non_bool:pIsi [.non,.ty "bool"]=some (.bl false):=(rfl)
@[simp] theorem isi_non_int:pIsi [.non,.ty "int"]=some (.bl false):=(rfl)
@[simp] theorem isi_non_str:pIsi [.non,.ty "str"]=some (.bl false):=(rfl)
@[simp] theorem isi_non_list:pIsi [.non,.ty "list"]=some (.bl false):=(rfl)
@[simp] theorem isi_non_tuple:pIsi [.non,.ty "tuple"]=some (.bl false):=(rfl)
@[simp] theorem isi_non_dict:pIsi [.non,.ty "dict"]=some (.bl false):=(rfl)
@[simp] theorem isi_non_list_tuple:pIsi [.non,.tup [.ty "list", .ty "tuple"]]=some (.bl false):=(rfl)
@[simp] theorem isi_non_tuple_list:pIsi [.non,.tup [.ty "tuple", .ty "list"]]=some (.bl false):=(rfl)
@[simp] theorem isi_non_int_str:pIsi [.non,.tup [.ty "int", .ty "str"]]=some (.bl false):=(rfl)
@[simp] theorem isi_non_list_dict:pIsi [.non,.tup [.ty "list", .ty "dict"]]=some (.bl false):=(rfl)
@[simp] theorem isi_bl_bool (b:Bool):pIsi [(.bl b),.ty "bool"]=some (.bl true):=(rfl)
@[simp] theorem isi_bl_int (b:Bool):pIsi [(.bl b),.ty "int"]=some (.bl true):=(rfl)
@[simp] theorem isi_bl_str (b:Bool):pIsi [(.bl b),.ty "str"]=some (.bl false):=(rfl)
@[simp] theorem isi_bl_list (b:Bool):pIsi [(.bl b),.ty "list"]=some (.bl false):=(rfl)
@[simp] theorem isi_bl_tuple (b:Bool):pIsi [(.bl b),.ty "tuple"]=some (.bl false):=(rfl)
@[simp] theorem isi_bl_dict (b:Bool):pIsi [(.bl b),.ty "dict"]=some (.bl false):=(rfl)
@[simp] theorem isi_bl_list_tuple (b:Bool):pIsi [(.bl b),.tup [.ty "list", .ty "tuple"]]=some (.bl false):=(rfl)
@[simp] theorem isi_bl_tuple_list (b:Bool):pIsi [(.bl b),.tup [.ty "tuple", .ty "list"]]=some (.bl false):=(rfl)
@[simp] theorem isi_bl_int_str (b:Bool):pIsi [(.bl b),.tup [.ty "int", .ty "str"]]=some (.bl true):=(rfl)
@[simp] theorem isi_bl_list_dict (b:Bool):pIsi [(.bl b),.tup [.ty "list", .ty "dict"]]=some (.bl false):=(rfl)
@[simp] theorem isi_int_bool (i:Int):pIsi [(.int i),.ty "bool"]=some (.bl false):=(rfl)
@[simp] theorem isi_int_int (i:Int):pIsi [(.int i),.ty "int"]=some (.bl true):=(rfl)
@[simp] theorem isi_int_str (i:Int):pIsi [(.int i),.ty "str"]=some (.bl false):=(rfl)
@[simp] theorem isi_int_list (i:Int):pIsi [(.int i),.ty "list"]=some (.bl false):=(rfl)
@[simp] theorem isi_int_tuple (i:Int):pIsi [(.int i),.ty "tuple"]=some (.bl false):=(rfl)
@[simp] theorem isi_int_dict (i:Int):pIsi [(.int i),.ty "dict"]=some (.bl false):=(rfl)
@[simp] theorem isi_int_list_tuple (i:Int):pIsi [(.int i),.tup [.ty "list", .ty "tuple"]]=some (.bl false):=(rfl)
@[simp] theorem isi_int_tuple_list (i:Int):pIsi [(.int i),.tup [.ty "tuple", .ty "list"]]=some (.bl false):=(rfl)
@[simp] theorem isi_int_int_str (i:Int):pIsi [(.int i),.tup [.ty "int", .ty "str"]]=some (.bl true):=(rfl)
@[simp] theorem isi_int_list_dict (i:Int):pIsi [(.int i),.tup [.ty "list", .ty "dict"]]=some (.bl false):=(rfl)
@[simp] theorem isi_str_bool (s:Str):pIsi [(.str s),.ty "bool"]=some (.bl false):=(rfl)
@[simp] theorem isi_str_int (s:Str):pIsi [(.str s),.ty "int"]=some (.bl false):=(rfl)
@[simp] theorem isi_str_str (s:Str):pIsi [(.str s),.ty "str"]=some (.bl true):=(rfl)
@[simp] theorem isi_str_list (s:Str):pIsi [(.str s),.ty "list"]=some (.bl false):=(rfl)
@[simp] theorem isi_str_tuple (s:Str):pIsi [(.str s),.ty "tuple"]=some (.bl false):=(rfl)
@[simp] theorem isi_str_dict (s:Str):pIsi [(.str s),.ty "dict"]=some (.bl false):=(rfl)
@[simp] theorem isi_str_list_tuple (s:Str):pIsi [(.str s),.tup [.ty "list", .ty "tuple"]]=some (.bl false):=(rfl)
@[simp] theorem isi_str_tuple_list (s:Str):pIsi [(.str s),.tup [.ty "tuple", .ty "list"]]=some (.bl false):=(rfl)
@[simp] theorem isi_str_int_str (s:Str):pIsi [(.str s),.tup [.ty "int", .ty "str"]]=some (.bl true):=(rfl)
@[simp] theorem isi_str_list_dict (s:Str):pIsi [(.str s),.tup [.ty "list", .ty "dict"]]=some (.bl false):=(rfl)
@[simp] theorem isi_tup_bool (ds:List D):pIsi [(.tup ds),.ty "bool"]=some (.bl false):=(rfl)
@[simp] theorem isi_tup_int (ds:List D):pIsi [(.tup ds),.ty "int"]=some (.bl false):=(rfl)
@[simp] theorem isi_tup_str (ds:List D):pIsi [(.tup ds),.ty "str"]=some (.bl false):=(rfl)
@[simp] theorem isi_tup_list (ds:List D):pIsi [(.tup ds),.ty "list"]=some (.bl false):=(rfl)
@[simp] theorem isi_tup_tuple (ds:List D):pIsi [(.tup ds),.ty "tuple"]=some (.bl true):=(rfl)
@[simp] theorem isi_tup_dict (ds:List D):pIsi [(.tup ds),.ty "dict"]=some (.bl false):=(rfl)
@[simp] theorem isi_tup_list_tuple (ds:List D):pIsi [(.tup ds),.tup [.ty "list", .ty "tuple"]]=some (.bl true):=(rfl)
@[simp] theorem isi_tup_tuple_list (ds:List D):pIsi [(.tup ds),.tup [.ty "tuple", .ty "list"]]=some (.bl true):=(rfl)
@[simp] theorem isi_tup_int_str (ds:List D):pIsi [(.tup ds),.tup [.ty "int", .ty "str"]]=some (.bl false):=(rfl)
@[simp] theorem isi_tup_list_dict (ds:List D):pIsi [(.tup ds),.tup [.ty "list", .ty "dict"]]=some (.bl false):=(rfl)
@[simp] theorem isi_lst_bool (g:Fl) (ds:List D):pIsi [(.lst g ds),.ty "bool"]=some (.bl false):=(rfl)
@[simp] theorem isi_lst_int (g:Fl) (ds:List D):pIsi [(.lst g ds),.ty "int"]=some (.bl false):=(rfl)
@[simp] theorem isi_lst_str (g:Fl) (ds:List D):pIsi [(.lst g ds),.ty "str"]=some (.bl false):=(rfl)
@[simp] theorem isi_lst_list (g:Fl) (ds:List D):pIsi [(.lst g ds),.ty "list"]=some (.bl true):=(rfl)
@[simp] theorem isi_lst_tuple (g:Fl) (ds:List D):pIsi [(.lst g ds),.ty "tuple"]=some (.bl false):=(rfl)
@[simp] theorem isi_lst_dict (g:Fl) (ds:List D):pIsi [(.lst g ds),.ty "dict"]=some (.bl false):=(rfl)
@[simp] theorem isi_lst_list_tuple (g:Fl) (ds:List D):pIsi [(.lst g ds),.tup [.ty "list", .ty "tuple"]]=some (.bl true):=(rfl)
@[simp] theorem isi_lst_tuple_list (g:Fl) (ds:List D):pIsi [(.lst g ds),.tup [.ty "tuple", .ty "list"]]=some (.bl true):=(rfl)
@[simp] theorem isi_lst_int_str (g:Fl) (ds:List D):pIsi [(.lst g ds),.tup [.ty "int", .ty "str"]]=some (.bl false):=(rfl)
@[simp] theorem isi_lst_list_dict (g:Fl) (ds:List D):pIsi [(.lst g ds),.tup [.ty "list", .ty "dict"]]=some (.bl true):=(rfl)
@[simp] theorem isi_dct_bool (g:Fl) (ks:List Key) (ds:List D):pIsi [(.dct g ks ds),.ty "bool"]=some (.bl false):=(rfl)
@[simp] theorem isi_dct_int (g:Fl) (ks:List Key) (ds:List D):pIsi [(.dct g ks ds),.ty "int"]=some (.bl false):=(rfl)
@[simp] theorem isi_dct_str (g:Fl) (ks:List Key) (ds:List D):pIsi [(.dct g ks ds),.ty "str"]=some (.bl false):=(rfl)
@[simp] theorem isi_dct_list (g:Fl) (ks:List Key) (ds:List D):pIsi [(.dct g ks ds),.ty "list"]=some (.bl false):=(rfl)
@[simp] theorem isi_dct_tuple (g:Fl) (ks:List Key) (ds:List D):pIsi [(.dct g ks ds),.ty "tuple"]=some (.bl false):=(rfl)
@[simp] theorem isi_dct_dict (g:Fl) (ks:List Key) (ds:List D):pIsi [(.dct g ks ds),.ty "dict"]=some (.bl true):=(rfl)
@[simp] theorem isi_dct_list_tuple (g:Fl) (ks:List Key) (ds:List D):pIsi [(.dct g ks ds),.tup [.ty "list", .ty "tuple"]]=some (.bl false):=(rfl)
@[simp] theorem isi_dct_tuple_list (g:Fl) (ks:List Key) (ds:List D):pIsi [(.dct g ks ds),.tup [.ty "tuple", .ty "list"]]=some (.bl false):=(rfl)
@[simp] theorem isi_dct_int_str (g:Fl) (ks:List Key) (ds:List D):pIsi [(.dct g ks ds),.tup [.ty "int", .ty "str"]]=some (.bl false):=(rfl)
@[simp] theorem isi_dct_list_dict (g:Fl) (ks:List Key) (ds:List D):pIsi [(.dct g ks ds),.tup [.ty "list", .ty "dict"]]=some (.bl true):=(rfl)
end VS
set_option maxHeartbeats 6400000
namespace VS
open PySem L2 SeqAt PySem.Spec PyProof.Rows
abbrev set0 (w:World):Obj:={ cls:=.type "set", dict:=none,data:=.set #[] 0 (.fresh 0 0 (!w.params.followText "set-order")) }
structure SetRun (P:Program) (w:World) (n:Nat) (Vl:Nat→Value→Prop) (Sp:Nat→Heap→Addr→Prop):Prop where
 start:∀{h:Heap} {a:Addr},h.get? a=some (set0 w)→Sp 0 h a
 keep:∀{i:Nat} {h h':Heap} {a:Addr},Sp i h a→(∀o,h.get? a=some o→h'.get? a=some o)→Sp i h' a
 add:∀{i:Nat} {a:Addr} {v:Value} {A:Around} {E:Value→Shared→Prop} {s:Shared} {Q:Bool→Shared→Prop},i < n→Sp i s.heap a→Vl i v →
  (∀(b:Bool) (h':Heap) (tk:Nat),Heap.SameBut a s.heap h'→s.toks≤tk→Sp (i+1) h' a→Q b { s with heap:=h',toks:=tk })→wpAny (model P w) A (setAdd a v) Q E s
section
variable {P:Program} {w:World} {A:Around} {E:Value→Shared→Prop} {s:Shared}
theorem SetRun.loop {Sp:Nat→Heap→Addr→Prop} {Vl Pv:Nat→Value→Prop} {I S:Addr} {fp wr:List Addr} {g:Array GenState→Array GenState→Prop} {n:Nat} {St:Nat→Shared→Prop} {R:Result→Shared→Prop} (G:SetRun P w n Vl Sp)
  (Wk:WalksS P w A.in1 I fp wr g n Pv St) (nS:S∉fp) (hv:∀i v,Pv i v→Vl i v) :
  ∀(k i:Nat) (t:Shared),n - i=k→i≤n→St i t→Sp i t.heap S→(∀t',Moved (S::wr) g t t'→Sp n t'.heap S→R (.ok (.ret .none)) t')→codeAny (model P w) A (.builtin "set.update.loop" ⟨[.ref S,.ref I],[]⟩) R t:=by
 have nW:S∉wr:=fun h=>nS (Wk.sub _ h)
 have up:∀b∈wr,b∈S::wr:=fun b hb=>List.mem_cons_of_mem _ hb
 intro k
 induction k with
 | zero =>
  intro i t hk hi hst sp fin
  obtain rfl:i=n:=by omega
  refine codeAny_builtin F.entry_set_update_loop ?_
  rw[Around.under_plainId F.plain_set_update_loop _]
  refine (show wpAny _ A.in1 (pyNext (.ref I) >>= _) _ _ t from wpAny_bind (Wk.done t _ _ hst fun t' hm=>?_))
  exact(show wpAny _ A.in1 (ret Value.none) _ _ t' from wpAny_pure (fin t' (hm.mono up) (G.keep sp fun o e=>hm.heap S o nW e)))
 | succ k ih =>
  intro i t hk hi hst sp fin
  have lt:i < n:=by omega
  refine codeAny_builtin F.entry_set_update_loop ?_
  rw[Around.under_plainId F.plain_set_update_loop _]
  refine (show wpAny _ A.in1 (pyNext (.ref I) >>= _) _ _ t from wpAny_bind (Wk.item i t _ _ lt hst fun v t' hP hst' hm=>?_))
  refine (show wpAny _ A.in1 (holding [v] (setAdd S v) >>= _) _ _ t' from wpAny_bind (wpAny_holding ?_))
  refine G.add lt (G.keep sp fun o e=>hm.heap S o nW e) (hv i v hP) fun b h' tk sb htk sp'=>?_
  refine wpAny_pure ⟨plainId_quiet F.plain_set_update_loop _,ih (i+1) _ (by omega) lt (Wk.frame _ t' _ _ hst' htk fun b hb o e=>?_) sp' fun t2 hm2 sp2=>fin t2 (Moved.trans Wk.gtrans ((hm.mono up).then_heap htk fun b o hb e=>?_) hm2) sp2⟩
  ·rw[sb.2 b (fun z:b=S=>nS (z ▸ hb))];exact e
  ·rw[sb.2 b (fun z:b=S=>hb (by rw[z];exact List.mem_cons_self))];exact e
theorem call_set_lst {Sp:Nat→Heap→Addr→Prop} {Vl:Nat→Value→Prop} {l:Addr} {its:Array Value} {Q:Value→Shared→Prop} (G:SetRun P w its.size Vl Sp) (nh:A.handled=none) (hl:s.heap.IsList l its) (hv:∀i v,its[i]?=some v→Vl i v)
  (done:∀(h':Heap) (tk:Nat),Sp its.size h' s.heap.objs.size→(∀b o,s.heap.get? b=some o→h'.get? b=some o)→Q (.ref s.heap.objs.size) { s with heap:=h',toks:=tk }) :
  wpAny (model P w) A (call (.type "set") [.ref l]) Q E s:=by
 obtain⟨_,_,facts_mro⟩:=F.called_set.mro
 have facts_made:=F.called_set.made
 have facts_sub:=F.called_set.sub
 refine wpAny_call (codeAny_of_tree (show wpAny _ _ (callAny (.type "set") _) _ _ _ from ?_))
 refine wpAny_pure ⟨Code.quiet_builtin _ (by decide +kernel),codeAny_builtin F.entry_type_call ?_⟩
 rw[Around.under_plain (weight_type_call_type "set" [.ref l] []) rfl]
 have facts_nt:=F.called_set.notType
 have facts_cc:=F.called_set.canCreate
 have facts_tc:=F.typeCall_set_1 (.ref l)
 repeat (any_goals (first | assumption | wp_step))
 refine codeAny_mono (L2.code_set_led1 (.ref l) (E:=E) (Q₁:=fun ob t1=>ob=.ref s.heap.objs.size∧t1={ s with heap:=s.heap.push (set0 w) }) ⟨rfl,rfl⟩) fun out t1 hr=>?_
 rcases out with e | fl
 ·exact hr
 cases fl with
 | ret ob =>
  obtain⟨rfl,rfl⟩:=hr
  have at0:(s.heap.push (set0 w)).get? s.heap.objs.size=some (set0 w):=Heap.get?_push_size _ rfl
  have ty0:Shared.TypeIs { s with heap:=s.heap.push (set0 w) } (.ref s.heap.objs.size) "set" := ⟨_,at0,rfl⟩
  have facts_il:=F.called_set.init.lookup
  have facts_ib:=F.called_set.init.bind (.ref s.heap.objs.size)
  repeat (any_goals (first | assumption | wp_step))
  refine codeAny_mono (codeAny_call_builtin (R:=wants (fun r t2=>r=.none∧∃h' tk,t2={ s with heap:=h',toks:=tk }∧Sp its.size h' s.heap.objs.size∧(∀b o,s.heap.get? b=some o→h'.get? b=some o)) E)
   F.called_set.init.plain F.entry_set_init (check_set_init_1 ty0 ?_)) fun out2 t2 hr2=>?_
  ·obtain⟨ol,hol,hcl,nl,hdl⟩:=hl
   obtain⟨oc,od,odt,osl⟩:=ol
   simp only at hcl hdl
   subst hcl hdl
   have hol':(s.heap.push (set0 w)).get? l=some { cls:=.type "list", dict:=od,data:=.seq its nl,slots:=osl }:=Heap.get?_push_of_some _ hol
   have facts_s1:=F.sub_list_set
   have facts_s2:=F.sub_list_frozenset
   have facts_ne:(Value.type "list" == Value.type "dict")=false:=by decide
   have hl1:(s.heap.push (set0 w)).IsList l its:=⟨_,hol',rfl,nl,rfl⟩
   unfold Builtin.«set.__init__» noKeywords Builtin.Frozenset.updateFrom
   generalize hIT:pyIter=IT
   wp_walk
   subst hIT
   refine wpAny_pyIter_list hl1 (wpAny_bind (wpAny_runValue ?_))
   have lt:l < s.heap.objs.size:=Heap.lt_size hol
   have sz:(s.heap.push (set0 w)).objs.size=s.heap.objs.size+1:=Heap.size_push ..
   have nI:l≠(s.heap.push (set0 w)).objs.size:=by rw[Heap.size_push];exact Nat.ne_of_lt (Nat.lt_succ_of_lt lt)
   have nS:s.heap.objs.size∉[(s.heap.push (set0 w)).objs.size,l]:=by
    rw[Heap.size_push];simp only[List.mem_cons,List.not_mem_nil,or_false,not_or]
    exact⟨Nat.ne_of_lt (Nat.lt_succ_self _),Nat.ne_of_gt lt⟩
   refine G.loop ((Walks.list (by simp[nh]) _ l nI its).toS) nS hv (its.size - 0) 0 _ (by omega) (Nat.zero_le _) ⟨⟨_,Heap.get?_push_size _ rfl,rfl,rfl⟩,hl1.push _⟩ (G.start (Heap.get?_push_of_some _ at0)) fun t3 hm st=>?_
   obtain⟨h3,g3,d3,tk3,os3⟩:=t3
   obtain rfl:g3=s.gens:=hm.gens
   obtain rfl:d3=s.drawn:=hm.drawn
   obtain rfl:os3=s.os:=hm.os
   show wpAny _ _ _ _ _ _
   refine wpAny_pure (show wpAny _ _ (ret Value.none) _ _ _ from wpAny_pure ⟨rfl,h3,tk3,rfl,st,fun b o e=>?_⟩)
   have lb:b < s.heap.objs.size:=Heap.lt_size e
   exact hm.heap b o (by rw[Heap.size_push];simp only[List.mem_cons,List.not_mem_nil,or_false,not_or];exact⟨Nat.ne_of_lt lb,Nat.ne_of_lt (Nat.lt_succ_of_lt lb)⟩) (Heap.get?_push_of_some _ (Heap.get?_push_of_some _ e))
  ·rcases out2 with e | fl2
   ·exact hr2
   cases fl2 with
   | ret r =>
    obtain⟨rfl,h3,tk3,rfl,st,kp⟩:=hr2
    repeat (any_goals (first | assumption | wp_step))
    exact done _ _ st kp
   | _=>exact hr2.elim
 | _=>exact hr.elim
theorem call_set_tup {Sp:Nat→Heap→Addr→Prop} {Vl:Nat→Value→Prop} {l:Addr} {its:Array Value} {Q:Value→Shared→Prop} (G:SetRun P w its.size Vl Sp) (nh:A.handled=none) (hl:s.heap.IsTuple l its) (hv:∀i v,its[i]?=some v→Vl i v)
  (done:∀(h':Heap) (tk:Nat),Sp its.size h' s.heap.objs.size→(∀b o,s.heap.get? b=some o→h'.get? b=some o)→Q (.ref s.heap.objs.size) { s with heap:=h',toks:=tk }) :
  wpAny (model P w) A (call (.type "set") [.ref l]) Q E s:=by
 obtain⟨_,_,facts_mro⟩:=F.called_set.mro
 have facts_made:=F.called_set.made
 have facts_sub:=F.called_set.sub
 refine wpAny_call (codeAny_of_tree (show wpAny _ _ (callAny (.type "set") _) _ _ _ from ?_))
 refine wpAny_pure ⟨Code.quiet_builtin _ (by decide +kernel),codeAny_builtin F.entry_type_call ?_⟩
 rw[Around.under_plain (weight_type_call_type "set" [.ref l] []) rfl]
 have facts_nt:=F.called_set.notType
 have facts_cc:=F.called_set.canCreate
 have facts_tc:=F.typeCall_set_1 (.ref l)
 repeat (any_goals (first | assumption | wp_step))
 refine codeAny_mono (L2.code_set_led1 (.ref l) (E:=E) (Q₁:=fun ob t1=>ob=.ref s.heap.objs.size∧t1={ s with heap:=s.heap.push (set0 w) }) ⟨rfl,rfl⟩) fun out t1 hr=>?_
 rcases out with e | fl
 ·exact hr
 cases fl with
 | ret ob =>
  obtain⟨rfl,rfl⟩:=hr
  have at0:(s.heap.push (set0 w)).get? s.heap.objs.size=some (set0 w):=Heap.get?_push_size _ rfl
  have ty0:Shared.TypeIs { s with heap:=s.heap.push (set0 w) } (.ref s.heap.objs.size) "set" := ⟨_,at0,rfl⟩
  have facts_il:=F.called_set.init.lookup
  have facts_ib:=F.called_set.init.bind (.ref s.heap.objs.size)
  repeat (any_goals (first | assumption | wp_step))
  refine codeAny_mono (codeAny_call_builtin (R:=wants (fun r t2=>r=.none∧∃h' tk,t2={ s with heap:=h',toks:=tk }∧Sp its.size h' s.heap.objs.size∧(∀b o,s.heap.get? b=some o→h'.get? b=some o)) E)
   F.called_set.init.plain F.entry_set_init (check_set_init_1 ty0 ?_)) fun out2 t2 hr2=>?_
  ·obtain⟨ol,hol,hcl,nl,hdl⟩:=hl
   obtain⟨oc,od,odt,osl⟩:=ol
   simp only at hcl hdl
   subst hcl hdl
   have hol':(s.heap.push (set0 w)).get? l=some { cls:=.type "tuple", dict:=od,data:=.seq its nl,slots:=osl }:=Heap.get?_push_of_some _ hol
   have facts_s1:=F.sub_tuple_set
   have facts_s2:=F.sub_tuple_frozenset
   have facts_ne:(Value.type "tuple" == Value.type "dict")=false:=by decide
   have hl1:(s.heap.push (set0 w)).IsTuple l its:=⟨_,hol',rfl,nl,rfl⟩
   unfold Builtin.«set.__init__» noKeywords Builtin.Frozenset.updateFrom
   generalize hIT:pyIter=IT
   wp_walk
   subst hIT
   refine wpAny_pyIter_tuple hl1 (wpAny_bind (wpAny_runValue ?_))
   have lt:l < s.heap.objs.size:=Heap.lt_size hol
   have sz:(s.heap.push (set0 w)).objs.size=s.heap.objs.size+1:=Heap.size_push ..
   have nI:l≠(s.heap.push (set0 w)).objs.size:=by rw[Heap.size_push];exact Nat.ne_of_lt (Nat.lt_succ_of_lt lt)
   have nS:s.heap.objs.size∉[(s.heap.push (set0 w)).objs.size,l]:=by
    rw[Heap.size_push];simp only[List.mem_cons,List.not_mem_nil,or_false,not_or]
    exact⟨Nat.ne_of_lt (Nat.lt_succ_self _),Nat.ne_of_gt lt⟩
   refine G.loop ((Walks.tuple (by simp[nh]) _ l nI its).toS) nS hv (its.size - 0) 0 _ (by omega) (Nat.zero_le _) ⟨⟨_,Heap.get?_push_size _ rfl,rfl,rfl⟩,hl1.push _⟩ (G.start (Heap.get?_push_of_some _ at0)) fun t3 hm st=>?_
   obtain⟨h3,g3,d3,tk3,os3⟩:=t3
   obtain rfl:g3=s.gens:=hm.gens
   obtain rfl:d3=s.drawn:=hm.drawn
   obtain rfl:os3=s.os:=hm.os
   show wpAny _ _ _ _ _ _
   refine wpAny_pure (show wpAny _ _ (ret Value.none) _ _ _ from wpAny_pure ⟨rfl,h3,tk3,rfl,st,fun b o e=>?_⟩)
   have lb:b < s.heap.objs.size:=Heap.lt_size e
   exact hm.heap b o (by rw[Heap.size_push];simp only[List.mem_cons,List.not_mem_nil,or_false,not_or];exact⟨Nat.ne_of_lt lb,Nat.ne_of_lt (Nat.lt_succ_of_lt lb)⟩) (Heap.get?_push_of_some _ (Heap.get?_push_of_some _ e))
  ·rcases out2 with e | fl2
   ·exact hr2
   cases fl2 with
   | ret r =>
    obtain⟨rfl,h3,tk3,rfl,st,kp⟩:=hr2
    repeat (any_goals (first | assumption | wp_step))
    exact done _ _ st kp
   | _=>exact hr2.elim
 | _=>exact hr.elim
end
end VS
namespace VS
open PySem L2 SeqAt PySem.Spec PyProof.Rows
instance lawKey:LawfulBEq (Sum Int Str) where
 eq_of_beq {a b} h:=by
  cases a<;>cases b<;>first | exact congrArg Sum.inl (eq_of_beq (α:=Int) h) | exact congrArg Sum.inr (eq_of_beq (α:=Str) h) | exact nomatch (show false=true from h)
 rfl {a}:=by
  cases a with
  | inl i=>exact(beq_self_eq_true i:(i == i)=true)
  | inr x=>exact(beq_self_eq_true x:(x == x)=true)
def ddup {α:Type} [DecidableEq α]:List α→List α
 | []=>[]
 | k::ks=>if k∈ks then ddup ks else k::ddup ks
theorem UB {α:Type} [DecidableEq α]:∀(ks:List α) (x:α),x∈ddup ks↔x∈ks
 | [],x=>by simp[ddup]
 | k::ks,x=>by
  unfold ddup
  split
  ·rename_i h
   rw[UB ks x,List.mem_cons]
   exact⟨.inr,fun z=>z.elim (fun z=>by rw[z];exact h) id⟩
  ·rw[List.mem_cons,List.mem_cons,UB ks x]
theorem Uw {α:Type} [DecidableEq α]:∀(ks:List α),(ddup ks).Nodup
 | []=>by simp[ddup]
 | k::ks=>by
  unfold ddup
  split
  ·exact Uw ks
  ·rename_i h
   exact List.nodup_cons.mpr ⟨fun z=>h ((UB ks k).mp z),Uw ks⟩
theorem Jad {α:Type} [DecidableEq α]:∀(ks:List α),(ddup ks).length≤ks.length
 | []=>by simp[ddup]
 | k::ks=>by
  unfold ddup
  have:=Jad ks
  split<;>simp only[List.length_cons]<;>omega
theorem Jdl {α:Type} [DecidableEq α]:∀{ks:List α},ks.Nodup→ddup ks=ks
 | [],_=>rfl
 | k::ks,h=>by
  obtain⟨h1,h2⟩:=List.nodup_cons.mp h
  unfold ddup
  rw[if_neg h1,Jdl h2]
theorem JdW {α:Type} [DecidableEq α] (ks:List α):(ddup ks).length=ks.length↔ks.Nodup:=by
 constructor
 ·induction ks with
  | nil=>simp
  | cons k ks ih =>
   intro h
   unfold ddup at h
   split at h
   ·have:=Jad ks
    simp only[List.length_cons]at h;omega
   ·rename_i hk
    simp only[List.length_cons,Nat.add_right_cancel_iff]at h
    exact List.nodup_cons.mpr ⟨hk,ih h⟩
 ·intro h;rw[Jdl h]
theorem ZP {α:Type} [DecidableEq α]:∀{xs ys:List α},xs.Nodup→ys.Nodup→(∀x,x∈xs↔x∈ys)→xs.length=ys.length:=by
 intro xs ys hx hy h
 have p:=(List.perm_ext_iff_of_nodup hx hy).mpr h
 exact p.length_eq
theorem ddup_snoc {α:Type} [DecidableEq α] (ks:List α) (k:α):(ddup (ks++[k])).length=if k∈ks then (ddup ks).length else (ddup ks).length+1:=by
 split
 ·rename_i h
  refine ZP (Uw _) (Uw _) fun x=>?_
  rw[UB,UB,List.mem_append,List.mem_singleton]
  exact⟨fun z=>z.elim id fun z=>by rw[z];exact h,.inl⟩
 ·rename_i h
  have n:(k::ddup ks).Nodup:=List.nodup_cons.mpr ⟨fun z=>h ((UB _ _).mp z),Uw _⟩
  have:=ZP (Uw (ks++[k])) n fun x=>by
   rw[UB,List.mem_append,List.mem_singleton,List.mem_cons,UB]
   exact Or.comm
  rw[this];simp
section
variable {P:Program} {w:World} {A:Around} {E:Value→Shared→Prop} {s:Shared}
theorem JcA (ks:List Key) (hb:ks.length+1 < scanBound):SetRun P w ks.length (fun i v=>∃k,ks[i]?=some k∧RelV (kV k) v) (fun i h a=>h.SetOf (mixKind P w) a (fun k=>decide (k∈ks.take i)) (ddup (ks.take i)).length) where
 start:=fun {h a} e=>⟨_,#[],0,_,e,⟨rfl,rfl,rfl⟩,rfl,(fun e he=>by simp at he),(fun k=>by simp),(by decide),(by rfl),rfl⟩
 keep:=fun sp k=>by obtain⟨o,es,ep,t,e,r⟩:=sp;exact⟨o,es,ep,t,k o e,r⟩
 add:=fun {i a v A E s Q} hi sp hv q=>by
  obtain⟨k,hk,rv⟩:=hv
  unfold setAdd
  refine wpAny_holding (wpAny_bind ((mixKind P w).pyHash (k:=k) (kV_is rv) ?_))
  have hl:=Jad (ks.take i)
  rw[List.length_take]at hl
  refine wpAny_setAddHashed_of (knd:=mixKind P w) (s:={ s with toks:=s.toks+1 }) (kV_is rv) (key_scan rv) sp (by omega) fun h' sb st=>?_
  refine q _ h' _ sb (Nat.le_succ _) (SetOf_congr st (fun j=>?_) ?_)
  ·rw[List.take_add_one,hk]
   simp[List.mem_append]
  ·rw[List.take_add_one,hk]
   show (if decide (k∈ks.take i)=true then _ else _)=_
   rw[Option.toList_some,ddup_snoc]
   simp
end
def QW:List D→Option (List Key)
 | []=>some []
 | d::ds=>match d.key,QW ds with
  | some k,some ks=>some (k::ks)
  | _,_=>none
def UV:D→Option (List D)
 | .lst _ ds=>some ds
 | .tup ds=>some ds
 | _=>none
def JaZ (c:CE):CE:=fun env=>(c env).bind fun d env=>match UV d with
 | some ds=>(match QW ds with
  | some ks=>if ks.length≤4000 then .ok (.int (ddup ks).length) env else .err
  | none=>.err)
 | none=>.err
section
variable {X:Cx} {W:WX} {M Rs:List Nat} {e:Expr} {c:CE} {p p2 q2 pos:Pos} {C:Ctx} {H:Hp}
theorem QM:∀{ds:List D} {ks:List Key} {vs:List V} {fp:List Addr},QW ds=some ks→Reps C H ds vs fp→vs=ks.map kV
 | [],ks,vs,fp,h,⟨e,_⟩=>by cases h;exact e
 | d::ds,ks,vs,fp,h,⟨v,vs',f1,f2,e,r,rs,_⟩=>by
  unfold QW at h
  split at h
  ·rename_i k ks' hk hks
   cases h
   subst e
   rw[QM hks rs]
   congr 1
   cases d with
   | int i=>cases hk;exact r.1
   | str z=>cases hk;exact r.1
   | _=>cases hk
  ·cases h
def tSetOf (K:PySem.W.Frag) (ta:TE) (R:List V→Hp→VK→Prop):TE:=fun σ H Q=>ta σ H fun x H1=>∃l xs,x=.ref l∧(SqL K H1 l xs∨SqT K H1 l xs)∧R xs H1 Q
theorem vals_get {xs:List V} {us:List Value} (r:Vals xs us):∀{i:Nat} {u:Value},us[i]?=some u→∃x,xs[i]?=some x∧RelV x u:=by
 induction r with
 | nil=>intro i u h;simp at h
 | cons r1 r2 ih =>
  intro i u h
  cases i with
  | zero=>simp at h;subst h;exact⟨_,rfl,r1⟩
  | succ i=>simp only[List.getElem?_cons_succ]at h ⊢;exact ih h
theorem pe_lenSet2 {ta:TE} (hc:X.calm=true) (hg:Gl X "len") (hm:X.mg "len" = none) (hg2:Gl X "set") (hm2:X.mg "set" = none) (ha:PE X e ta) (na:starEach [e] X.env=(false,eval e X.env)::starEach [] X.env) :
  PE X (.Call (.Name "len" p) [.Call (.Name "set" p2) [e] [] q2] [] pos) (tSetOf X.K ta fun xs H Q=>∃ks:List Key,xs=ks.map kV∧ks.length≤4000∧Q (.int (ddup ks).length) H):=by
 refine⟨fun pins s σ H Q I h=>Call_ (ld_blt I hg hm boot_len (PyProof.Rows.callWith_builtin1 (PyProof.Rows.args_cons ?_ rfl) rfl rfl))⟩
 refine Call_ (ld_blt I hg2 hm2 boot_set (PyProof.Rows.callWith_type1 (PyProof.Rows.args_cons (thn (ha.run pins s σ H _ I h) fun v s1 ⟨x,H1,I1,r1,l,xs,ex,hq,ks,ek,hk,q1⟩=>PyProof.Rows.args_nil ?_) na) na rfl))
 subst ex ek
 cases r1
 have fin:∀(its:List Value),Vals (ks.map kV) its→∀(h':Heap) (tk:Nat),h'.SetOf (mixKind X.prog X.w) s1.heap.objs.size (fun k=>decide (k∈ks.take ks.length)) (ddup (ks.take ks.length)).length →
   (∀b o,s1.heap.get? b=some o→h'.get? b=some o) →
   wpAny (model X.prog X.w) X.A (spliced (backTo pos (starEach [] X.env))) (fun vs t=>wpAny (model X.prog X.w) X.A (call (.builtin "len") (Value.ref s1.heap.objs.size::vs)) (EP X pins σ Q) X.xe t) X.xe { s1 with heap:=h',toks:=tk }:=fun its r h' tk hS hk'=>by
  refine PyProof.Rows.args_nil ?_
  rw[List.take_length]at hS
  obtain⟨o,es,ep,t,ho,hex,hd,_,_,_,hf,hn⟩:=hS
  have I2:Inv X pins σ H1 { s1 with heap:=h',toks:=tk }:=I1.kept fun b o e=>hk' b o e
  have hl:=Jad ks
  refine call_len_set ho hex hd hf (by rw[hn];omega) ⟨.int (ddup ks).length,H1,I2.tok _,⟨_,by rw[hn]⟩,q1⟩
 have hv:∀(its:List Value),Vals (ks.map kV) its→its.toArray.size=ks.length∧∀i v,its.toArray[i]?=some v→∃k,ks[i]?=some k∧RelV (kV k) v:=fun its r=>by
  refine⟨by rw[List.size_toArray,←r.length,List.length_map],fun i v hi=>?_⟩
  obtain⟨x,hx,rx⟩:=vals_get r (i:=i) (u:=v) (by rw[←Array.getElem?_toList]at hi;exact hi)
  rw[List.getElem?_map]at hx
  obtain⟨k,hk,rfl⟩:=Option.map_eq_some_iff.mp hx
  exact⟨k,hk,rx⟩
 have hb:ks.length+1 < scanBound:=by unfold scanBound;omega
 rcases hq with hq | hq
 ·obtain⟨its,r,pl,hz⟩:=I1.list hq
  obtain⟨e1,e2⟩:=hv its r
  refine call_set_lst (P:=X.prog) (w:=X.w) (Vl:=fun i v=>∃k,ks[i]?=some k∧RelV (kV k) v) (by rw[e1];exact JcA ks hb) (I1.ok.hd hc) pl.isList e2 fun h' tk hS hk'=>?_
  rw[e1]at hS
  exact fin its r h' tk hS hk'
 ·obtain⟨its,r,pl,hz⟩:=I1.tuple hq
  obtain⟨e1,e2⟩:=hv its r
  refine call_set_tup (P:=X.prog) (w:=X.w) (Vl:=fun i v=>∃k,ks[i]?=some k∧RelV (kV k) v) (by rw[e1];exact JcA ks hb) (I1.ok.hd hc) pl e2 fun h' tk hS hk'=>?_
  rw[e1]at hS
  exact fin its r h' tk hS hk'
theorem so_lenSet (hc:X.calm=true) (hg:Gl X "len") (hm:X.mg "len" = none) (hg2:Gl X "set") (hm2:X.mg "set" = none) (h:SB X W M Rs e c) (na:starEach [e] X.env=(false,eval e X.env)::starEach [] X.env) :
  SO X W M (.Call (.Name "len" p) [.Call (.Name "set" p2) [e] [] q2] [] pos) (JaZ c):=by
 obtain⟨t,pe,q⟩:=h.go
 refine⟨_,pe_lenSet2 hc hg hm hg2 hm2 pe na,fun C fs env σ H tf Q hC G po=>?_⟩
 show t σ H fun x H1=>_
 refine q C fs env σ H tf _ hC G ?_
 unfold JaZ at po
 cases e1:c env with
 | err=>rw[e1]at po;exact po
 | ex x env'=>rw[e1]at po;exact po
 | ok d env1 =>
  rw[e1]at po
  intro v fs1 H1 fp own G1 s1 r i1
  simp only[R.bind]at po
  cases hs:UV d with
  | none=>rw[hs]at po;exact po.elim
  | some ds =>
  rw[hs]at po
  simp only at po
  cases hk:QW ds with
  | none=>rw[hk]at po;exact po.elim
  | some ks =>
  rw[hk]at po
  simp only at po
  by_cases hl:ks.length≤4000
  case neg=>rw[if_neg hl]at po;exact po.elim
  rw[if_pos hl]at po
  have k:=Uc (own:=own) G1 s1 po
  cases d with
  | lst g ds' =>
   cases hs
   obtain⟨a,vs,f,rfl,q,rz⟩:=Jt hC G1.fr r
   exact⟨a,vs,rfl,.inl q,ks,QM hk rz,hl,k.here ⟨rfl,rfl⟩⟩
  | tup ds' =>
   cases hs
   obtain⟨a,vs,rfl,q,rz⟩:=JB hC r
   exact⟨a,vs,rfl,.inr q,ks,QM hk rz,hl,k.here ⟨rfl,rfl⟩⟩
  | _=>cases hs
@[simp] theorem e_lenSet {env:Env}:JaZ c env=(c env).bind fun d env=>match UV d with
 | some ds=>(match QW ds with
  | some ks=>if ks.length≤4000 then .ok (.int (ddup ks).length) env else .err
  | none=>.err)
 | none=>.err:=(rfl)
end
end VS
namespace VS
open PySem L2 SeqAt PySem.Spec PyProof.Rows
def Jcy:List D→Option D
 | [.non]=>some (.str "None")
 | [.bl b]=>some (.str (if b then "True" else "False"))
 | ds=>pStr ds
section
variable {X:Cx}
theorem JdJ {k:Nat} (hr:Room k X.A) (hg:X.A.guards=some []):ODL X (.type "str") Jcy:=by
 intro pins s σ H xs us Q I rv ⟨C,ds,fx,d,hC,hF,rs,e,kk⟩
 have gen:=od_str hr hg pins s σ H xs us Q I rv
 unfold Jcy at e
 split at e
 ·cases e
  obtain⟨v,rfl,r⟩:=YZ rs
  obtain⟨rfl,_⟩:=r
  obtain⟨u,rfl,ru⟩:=vals1 rv
  cases (show u=Value.none from ru)
  exact PySem.P.str_of_none ⟨.str "None", H,I.tok _,⟨_,rfl⟩,kk.here ⟨rfl,rfl⟩⟩
 ·rename_i b
  cases e
  obtain⟨v,rfl,r⟩:=YZ rs
  obtain⟨rfl,_⟩:=r
  obtain⟨u,rfl,ru⟩:=vals1 rv
  cases (show u=Value.bool b from ru)
  exact PySem.P.str_of_bool ⟨.str _,H,I.tok _,⟨_,rfl⟩,kk.here ⟨rfl,rfl⟩⟩
 ·exact gen ⟨C,_,fx,d,hC,hF,rs,e,kk⟩
end
end VS
set_option maxHeartbeats 6400000
namespace VS
open PySem L2 SeqAt
mutual
def D.thaw:D→D
 | .tup ds=>.tup (thaws ds)
 | .ftu ds=>.tup (thaws ds)
 | .lst g ds=>.lst g (thaws ds)
 | d=>d
def thaws:List D→List D
 | []=>[]
 | d::ds=>d.thaw::thaws ds
end
section
variable {C:Ctx} {H:Hp}
mutual
theorem Rep.thaw:∀{d:D} {v:V} {fp:List Addr},Rep C H d v fp→Rep C H d.thaw v fp
 | .tup ds,v,fp,⟨a,vs,e,t,r⟩=>⟨a,vs,e,t,Reps.thaw r⟩
 | .ftu ds,v,fp,⟨a,vs,e,t,r⟩=>⟨a,vs,e,t.sqt,Reps.thaw r⟩
 | .lst g ds,v,fp,⟨a,vs,f1,f2,e,n,r,z,e2⟩=>⟨a,vs,f1,f2,e,n,Reps.thaw r,z,e2⟩
 | .non,v,fp,h=>h
 | .bl b,v,fp,h=>h
 | .int i,v,fp,h=>h
 | .str s,v,fp,h=>h
 | .ty s,v,fp,h=>h
 | .dct g ks ds,v,fp,h=>h
 | .obj g c ns ds,v,fp,h=>h
 | .exc c ns ds,v,fp,h=>h
theorem Reps.thaw:∀{ds:List D} {vs:List V} {fp:List Addr},Reps C H ds vs fp→Reps C H (thaws ds) vs fp
 | [],vs,fp,h=>h
 | d::ds,vs,fp,⟨v,vs',f1,f2,e,r,rs,e2⟩=>⟨v,vs',f1,f2,e,Rep.thaw r,Reps.thaw rs,e2⟩
end
end
def YY (c:CE):CE:=fun env=>(c env).bind fun d env=>.ok d.thaw env
@[simp] theorem e_thaw {c:CE} {env:Env}:YY c env=(c env).bind fun d env=>.ok d.thaw env:=(rfl)
section
variable {X:Cx} {W:WX} {M Rs:List Nat} {e:Expr} {es:List Expr} {c:CE} {cs:CA} {p pos:Pos}
theorem ZO (h:SB X W M Rs e c):SB X W M Rs e (YY c):=by
 obtain⟨t,pe,q⟩:=h.go
 refine⟨t,pe,fun C fs env σ H tf Q hC G po=>q C fs env σ H tf Q hC G ?_⟩
 unfold YY at po
 cases e1:c env with
 | err=>rw[e1]at po;exact po
 | ex x env'=>rw[e1]at po;exact po
 | ok d env1 =>
  rw[e1]at po
  exact fun v fs1 H1 fp own G1 s1 r i1=>po v fs1 H1 fp own G1 s1 (Rep.thaw r) i1
def JeY (t:TA):TE:=fun σ H Q=>t σ H fun xs H1=>xs.length≤sizeLine∧∀p (o:Obj),H1 p=none→o.dict=none→Q (.ref p) (upd H1 p (.frz o (.tup xs)))
theorem pe_tupF {t:TA} {x1} (h:PA X es t):PE X (.Tuple es x1 pos) (JeY t):=by
 refine⟨fun pins s σ H Q I hq=>?_⟩
 refine wpAny_Tuple_spliced (thn (h.run pos pins s σ H _ I hq) fun us s1 ⟨xs,H1,I1,r,z,q⟩=>⟨by rw[←r.length];exact z,?_⟩)
 have hf:H1 s1.heap.objs.size=none:=I1.hok.fresh (Nat.le_refl _)
 refine⟨.ref s1.heap.objs.size,upd H1 s1.heap.objs.size (.frz { cls:=.type "tuple", data:=.seq us.toArray } (.tup xs)),I1.laid (t':=s1.toks) (fun b u e=>Heap.get?_push_of_some _ e) (Nat.le_refl _) ?_,rfl,q _ _ hf rfl⟩
 exact⟨Heap.get?_push_size _ rfl,z,us,r,⟨_,Heap.get?_push_size _ rfl,rfl,_,rfl⟩⟩
def JbU (cs:CA):CE:=fun env=>(cs env).bind fun ds env=>if ds.length≤sizeLine then .ok (.ftu ds) env else .err
@[simp] theorem e_tupF {env:Env}:JbU cs env=(cs env).bind fun ds env=>if ds.length≤sizeLine then .ok (.ftu ds) env else .err:=(rfl)
theorem Jdq {kk} (h:SAO X W M es cs):SO X W M (.Tuple es kk pos) (JbU cs):=by
 obtain⟨t,p,q⟩:=h.go
 refine⟨JeY t,pe_tupF p,fun C fs env σ H tf Q hC G po=>q C fs env σ H tf _ hC G ?_⟩
 unfold JbU at po
 cases e1:cs env with
 | err=>rw[e1]at po;exact po
 | ex x env'=>rw[e1]at po;exact po
 | ok ds env' =>
  rw[e1]at po
  intro vs fs' H' fp G' s r
  have po':Yw W C M tf fs env σ H Q (if ds.length≤sizeLine then .ok (.ftu ds) env' else .err):=po
  by_cases hz:ds.length≤sizeLine
  ·rw[if_pos hz]at po'
   refine⟨by rw[←Jh r];exact hz,fun q o hq ho=>?_⟩
   have le:=Le.new (o:=.frz o (.tup vs)) hq
   refine po' (.ref q) fs' _ fp (G'.le' le) ?_ ⟨q,vs,rfl,⟨o,upd_same,ho⟩,r.le le⟩
   have:=s.trans (Step.grow (M:=[]) G'.drop le)
   simpa using this
  ·rw[if_neg hz]at po';exact po'.elim
theorem call_tupleF:CallR X (.type "tuple") (fun xs H Q=>∃p ys,xs=[.ref p]∧SqL X.K H p ys∧∀l (o:Obj),H l=none→o.dict=none→Q (.ref l) (upd H l (.frz o (.tup ys)))):=by
 intro pins s σ H xs us Q I r h
 obtain⟨p,ys,rfl,hq,q⟩:=h
 obtain⟨u,rfl,rx⟩:=vals1 r
 cases rx
 obtain⟨its,r',pl,hz⟩:=I.list hq
 have hlen:=r'.length
 refine call_tuple_list pl.isList (fun h' kp=>?_) (by simp only[List.size_toArray]<;>omega)
 have I1:Inv X pins σ H { s with heap:=h' }:=I.kept (t':=s.toks) kp
 refine⟨.ref h'.objs.size,upd H h'.objs.size (.frz { cls:=.type "tuple", data:=.seq its.toArray } (.tup ys)),I1.laid (t':=s.toks) (fun b o e=>Heap.get?_push_of_some _ e) (Nat.le_refl _) ?_,rfl,q _ _ (I1.hok.fresh (Nat.le_refl _)) rfl⟩
 exact⟨Heap.get?_push_size _ rfl,hz,its,r',PyProof.Rows.IsTup.new _ _⟩
def Ja6:List D→Option D
 | [.lst _ ds]=>if imms ds then some (.ftu ds) else none
 | _=>none
theorem od_tupleF:ODL X (.type "tuple") Ja6:=by
 refine ODL.of call_tupleF fun xs H Q ⟨C,ds,fx,d,hC,hF,rs,e,k⟩=>?_
 unfold Ja6 at e
 split at e
 ·rename_i g zs
  split at e<;>cases e
  rename_i hi
  obtain⟨v,rfl,r⟩:=YZ rs
  obtain⟨a,vs,f,rfl,q,rz⟩:=Jt hC hF r
  have ez:=rz.imm hi
  subst ez
  refine⟨a,vs,rfl,q,fun l o hl ho=>?_⟩
  have le:=Le.new (o:=.frz o (.tup vs)) hl
  exact k (.ref l) _ [] le ⟨l,vs,rfl,⟨o,upd_same,ho⟩,rz.le le⟩ (by simp) fun a ha=>nomatch ha
 ·cases e
theorem call_dictF (hcalm:X.calm=true):CallR X (.type "dict") (fun xs H Q=>∃(a:Addr) (o:Obj) (ps:List Addr) (kvs:List (Key × V)),xs=[.ref a]∧H a=some (.frz o (.tup (ps.map V.ref)))∧o.dict=none∧Paired (fun p kv=>SqT X.K H p [kV kv.1,kv.2]) ps kvs ∧
  ∀p,H p=none→Q (.ref p) (upd H p (.dK (mergeK [] kvs)))):=by
 intro pins s σ H xs us Q I r ⟨a,o,ps,kvs,ex,hq,hdn,hp,q⟩
 subst ex
 obtain⟨u,eu,rx⟩:=vals1 r
 subst eu
 cases rx
 obtain⟨ho,hz,its,rv,o',ho',hc,n,hdat⟩:=I.hok a _ hq
 obtain rfl:o=o':=Option.some.inj (ho.symm.trans ho')
 have ei:=refs_at rv
 subst ei
 rw[List.length_map]at hz
 obtain⟨prs,rel,hl,hpr⟩:=pairs_of I hp
 have ex:∀(j:Nat),∃(u:Value),∀q,prs[j]?=some q→PyProof.Rows.IsTup s.heap (ps.getD j 0) #[u,q.2]∧keyIs q.1 u=true:=fun j=>by
  cases e:prs[j]? with
  | none=>exact⟨.none,fun q h=>nomatch h⟩
  | some q =>
   obtain⟨b,u,e1,e2,e3⟩:=hpr j q e
   refine⟨u,fun q' h=>?_⟩
   cases h
   rw[List.getD_eq_getElem?_getD,e1]
   exact⟨e2,e3⟩
 obtain⟨ku,hku⟩:=Classical.skolem.mp ex
 let pv:List (Value × Value):=prs.zipIdx.map fun q=>(ku q.2,q.1.2)
 have epv:∀j:Nat,pv[j]?=prs[j]?.map fun q=>(ku j,q.2):=fun j=>by
  show (prs.zipIdx.map fun q=>(ku q.2,q.1.2))[j]?=_
  rw[List.getElem?_map,List.getElem?_zipIdx]
  cases prs[j]?<;>simp
 have lpv:pv.length=prs.length:=by show (prs.zipIdx.map fun q=>(ku q.2,q.1.2)).length=_;simp
 have hcalm':=I.ok.hd hcalm
 refine PySem.call_dict_pairs (knd:=mixKind X.prog X.w) (kvs:=prs) (PySem.PairArg.tuple a (ps.map Value.ref).toArray (fun j=>ps.getD j 0) pv) hcalm' ⟨⟨o,n,ho,hc,hdn,hdat⟩,?_,?_⟩ ⟨lpv.symm,?_⟩ (by rw[lpv,hl];exact hz) fun h' tk hd' k=>?_
 ·simp[lpv,hl]
 ·intro j k v e
  rw[epv]at e
  obtain⟨q',e1,e2⟩:=Option.map_eq_some_iff.mp e
  cases e2
  obtain⟨b,u,e3,e4,e5⟩:=hpr j q' e1
  refine⟨?_,.inl ?_⟩
  ·simp[e3]
  ·exact(hku j q' e1).1
 ·intro i key v e
  rw[show PySem.PairRel pv i key v=(pv[i]?=some (key,v)) from rfl,epv]at e
  obtain⟨q',e1,e2⟩:=Option.map_eq_some_iff.mp e
  cases e2
  exact⟨q'.1,e1,(hku i q' e1).2⟩
 ·have hm:(s.heap.objs.size == sysModules)=false:=beq_eq_false_iff_ne.mpr (Nat.ne_of_gt I.big)
  have hlen:(mergeK [] kvs).length≤sizeLine:=by
   refine Nat.le_trans (length_mergeK kvs []) ?_
   rw[List.length_nil,Nat.zero_add,rel.length,hl]
   exact hz
  exact⟨.ref s.heap.objs.size,upd H s.heap.objs.size (.dK (mergeK [] kvs)),I.laid (t':=tk) (fun b o e=>k b o (fun z=>nomatch z) e) (Nat.le_refl _) (show ObjOk X.prog X.w _ _ _ (.dK (mergeK [] kvs)) from ⟨hlen,hm,merged [] prs,KV.merge rel .nil,hd'⟩),rfl,q _ (I.hok.fresh (Nat.le_refl _))⟩
def Jaq:List D→Option D
 | [.ftu ds]=>if imms ds then (Zb ds).map fun ps=>.dct .m (mkD ps).1 (mkD ps).2 else none
 | ds=>ZS ds
theorem od_dictF (hcalm:X.calm=true):ODL X (.type "dict") Jaq:=by
 intro pins s σ H xs us Q I rv ⟨C,ds0,fx,d,hC,hF,rs,e,kk⟩
 unfold Jaq at e
 split at e
 ·rename_i zs
  split at e
  case isFalse=>cases e
  rename_i hi
  obtain⟨ps,h1,rfl⟩:=Option.map_eq_some_iff.mp e
  obtain⟨v,rfl,r⟩:=YZ rs
  obtain⟨a,vs,rfl,⟨o,hq,ho⟩,rz⟩:=r
  have ez:=rz.imm hi
  subst ez
  obtain⟨as,kvs,rfl,q2,q3,q4⟩:=Jas hC h1 hi rz
  obtain⟨m1,m2,m3⟩:=Jam (acc:=[]) (kd:=([],[])) q3 q4 rfl .nil ⟨rfl,rfl⟩
  refine call_dictF hcalm pins s σ H _ us Q I rv ⟨a,o,as,kvs,rfl,hq,ho,q2,fun p hp=>?_⟩
  have le:=Le.new (o:=.dK (mergeK [] kvs)) hp
  exact kk (.ref p) _ [p] le ⟨p,_,[p],[],rfl,⟨upd_same,rfl⟩,⟨m1,m2⟩,m3.le le,.inl rfl,rfl⟩ (by simp) fun a ha=>by simp at ha;subst ha;exact hp
 ·exact JcW hcalm pins s σ H xs us Q I rv ⟨C,ds0,fx,d,hC,hF,rs,e,kk⟩
end
end VS
namespace VS
open PySem L2 SeqAt PySem.Spec PyProof.Rows
def keepZ (p:Addr × Obj):Bool:=(match p.2.cls with
 | .none=>false
 | _=>true) || (Nat.beq p.1 2 || Nat.beq p.1 3)
def KofG (g:Addr→Option Obj) (as:List Addr):PySem.W.Frag:=(He.frG g as).filter keepZ
theorem KofG_in {as:List Addr} {h:Heap}:(KofG h.get? as).In h:=fun _ _ e=>He.frG_mem (List.mem_filter.mp (He.lookup_mem e)).1
def Je8 {α:Type} (as:List Addr) (ob:PySem.W.Frag→α) (val:World→α):PySem.W.Hook where
 α:=α
 obs:=fun s=>ob (KofG s.heap.get? as)
 val:=val
 says:=fun w h=>∃K:PySem.W.Frag,K.In h∧ob K=val w
 of:=fun _ _ e=>⟨_,KofG_in,e⟩
 keeps:=fun _ _ _ ⟨K,hK,c⟩ k=>⟨K,PySem.W.Frag.In.keeps hK k,c⟩
def obT {α:Type} (as:List Addr) (ob:PySem.W.Frag→α) (s:PySem.W.SharedT):α:=ob (KofG (HandSHeadRun.getT s) as)
theorem obT_eq {α:Type} {as:List Addr} {ob:PySem.W.Frag→α} {val:World→α} (s:PySem.W.SharedT):obT as ob s=(Je8 as ob val).obs s.abs:=by
 have e:HandSHeadRun.getT s=s.abs.heap.get?:=funext (HandSHeadRun.getT_eq s)
 unfold obT
 rw[e]
 rfl
theorem Yf {l:List Bool} (h:l.all id=true) (i:Nat) {b:Bool} (e:l[i]?=some b):b=true:=List.all_eq_true.mp h b (List.mem_of_getElem? e)
theorem Jq {l:List Bool} {p:Prop} [Decidable p] (h:l.all id=true) (i:Nat) (e:l[i]?=some (decide p)):p:=of_decide_eq_true (Yf h i e)
theorem walkGE {l:PySem.W.OpenLaw} {k:Nat} {q:Program} {loose:List Str} {XP:(Str→Option Value)→Heap→Prop} {YP:World→Heap→Prop} {d:DefRec} {x:Str}
  (hn:l.most=some 63) (hdf:d.params.defaults=[]) (hr:Room k callerA)
  (F:∀(w:World) (mg:Str→Option Value) (fa:Addr) (h:Heap),YP w h→h.Ns mainGlobals mg→mg d.name=some (.ref fa) →
   ∃K:PySem.W.Frag,K.In h∧∃fd:FuncData,(∀(s:Shared) (u:Value),BindsTo s fd ⟨[u],[]⟩ [(x,u)])∧∀base:Heap,K.In base→base.Ns mainGlobals mg→FnG l.prog w K mg base k fa fd [x] (JcV K)) :
  PySem.W.WalkO q loose XP YP l.row.toRowW d [] (fun f vs=>PySem.call f vs):=by
 refine Att.attach_callB hn hdf fun w t0 t mg mb fa o pm cd doc a vs ns G Y ho hd hcd hmg hobj hints hlen hbits hgen=>?_
 obtain⟨K,KX,fd,hb,hF⟩:=F w mg fa _ Y G.T.g hmg
 exact call_g KX G.T.g G.T.b G.T.builtins G.T.nolimit hgen hobj hints hr hF hb hlen hbits
end VS
namespace VS
open PySem L2 SeqAt PySem.Spec PyProof.Rows
def top (i:Nat):Stmt:=PySem.Challenge.pw_joinback_k07_numbers_shown.main.body.getD i (.Pass ⟨0,0,0,0⟩)
section
variable {P:Program} {w:World} {K:PySem.W.Frag} {mg:Str→Option Value} {base:Heap}
abbrev Yg:Stmt:=top 11
theorem sc__law_tape:FnScope ["_law_script", "_law_k", "_law_cell", "_law_digits"] ["_law_script", "_law_k"] (defScope Yg):=⟨rfl,rfl,rfl,by decide +kernel,rfl,by decide +kernel,by decide +kernel⟩
def JaK:CS:=(sSeq (sAsg (cK (.int 0)) (gSet 2)) (sSeq (sIf (cTt (c2 pLtG (cVar 1) (cL pLen (Jb (cVar 0) cNil)))) (sAsg (cImm (cIdx (cVar 0) (cVar 1))) (gSet 2)) sNil) (sSeq (sAsg (c2 Zd (cL pAbs (Jb (cVar 2) cNil)) (cL Jct (Jb (c2 pGeG (cL pAbs (Jb (cVar 2) cNil)) (c2 pPow (cK (.int 10)) (cK (.int 18)))) cNil))) (gSet 3)) (sRet (cLst (Jb (cGet 3) (Jb (c2 pMod (c2 Zd (c2 pAdd (c2 pAdd (c2 pMod (cVar 2) (cK (.int 2147483647))) (c2 Zd (cK (.int 7919)) (cVar 1))) (cK (.int 11))) (cK (.int 48271))) (cK (.int 2147483629))) cNil)))))))
def Un:List D→FR:=JR 4 [false,false] JaK
theorem ok__law_tape {f:Addr} {fd:FuncData} (F:Fun K "_law_tape" "_law_tape" Yg f fd) (z_len:mg "len" = none) (z_abs:mg "abs" = none) (z_int:mg "int" = none):FnOk P w K mg base (L2.CX P w) 1 f fd ["_law_script", "_law_k"] (spF K mg [false,false] Un):=by
 refine' fn_ok (M:=_) (Vs:=_) F sc__law_tape rfl ?hv fun cdv A outer s H E hr=>?hb
 case hb =>
  have hr:Room 0 (cxOf (L2.CX P w) P w K mg base ["_law_script", "_law_k", "_law_cell", "_law_digits"] "_law_tape" (defScope Yg) f cdv A outer s H E).A:=hr
  have hN:(cxOf (L2.CX P w) P w K mg base ["_law_script", "_law_k", "_law_cell", "_law_digits"] "_law_tape" (defScope Yg) f cdv A outer s H E).N.Nodup:=sc__law_tape.nd
  have tk:Takes (cxOf (L2.CX P w) P w K mg base ["_law_script", "_law_k", "_law_cell", "_law_digits"] "_law_tape" (defScope Yg) f cdv A outer s H E) (fun cls d _ H=>E cls d H):=takes_of rfl rfl rfl rfl
  have hp:=passes_of (X:=cxOf (L2.CX P w) P w K mg base ["_law_script", "_law_k", "_law_cell", "_law_digits"] "_law_tape" (defScope Yg) f cdv A outer s H E) rfl
  refine'(Jf (Ju hN Jd) (Jf (Up (JG (od_ltG hr) (Ja 1) (SO.sb (Jp YX (by rfl) z_len (by rfl) (Jg (Ja 0) Js)))) (Jr (Ju hN (SB.imm (JC hr (Ja 0) (Ja 1))))) Ys) (Jf (Ju hN (Jk Uv (SO.sb (Jp JeE (by rfl) z_abs (by rfl) (Jg (Ja 2) Js))) (SO.sb (Ux od_int1 (by rfl) z_int (by rfl) (Jg (SO.sb (Zi (od_geG hr) (SO.sb (Jp JeE (by rfl) z_abs (by rfl) (Jg (Ja 2) Js))) (SO.sb (Jk Jcm (SO.sb Jd) (SO.sb Jd))))) Js))))) (Jr (JH (JY (Jc (Ye 3) (Jc (Jk ZL (SO.sb (Jk Uv (SO.sb (Jk JQ (SO.sb (Jk JQ (SO.sb (Jk ZL (Ja 2) (SO.sb Jd))) (SO.sb (Jk Uv (SO.sb Jd) (Ja 1))))) (SO.sb Jd))) (SO.sb Jd))) (SO.sb Jd)) Jj))))))))
 case hv=>decide
abbrev Yj:Stmt:=top 12
theorem sc__law_draw:FnScope ["_law_tape_here", "_law_many", "_law_found", "_law_once"] ["_law_tape_here", "_law_many"] (defScope Yj):=⟨rfl,rfl,rfl,by decide +kernel,rfl,by decide +kernel,by decide +kernel⟩
def JaI:CS:=(sSeq (sIf (cTt (c2 pGtG (cIdx (cVar 0) (cK (.int 0))) (cK (.int 0)))) (sSeq (sAsg (c2 pMod (cIdx (cVar 0) (cK (.int 0))) (cVar 1)) (gSet 2)) (sSeq (sAsg (c2 pDiv (cIdx (cVar 0) (cK (.int 0))) (cVar 1)) (Ql 0 (lVar 0) (cK (.int 0)))) (sRet (cGet 2)))) sNil) (sSeq (sAsg (c2 pMod (c2 pAdd (c2 Zd (cIdx (cVar 0) (cK (.int 1))) (cK (.int 48271))) (cK (.int 39373))) (cK (.int 2147483647))) (Ql 0 (lVar 0) (cK (.int 1)))) (sSeq (sAsg (c2 pMod (c2 Zd (cIdx (cVar 0) (cK (.int 1))) (c2 pAdd (c2 pMod (cIdx (cVar 0) (cK (.int 1))) (cK (.int 40009))) (cK (.int 7)))) (cK (.int 2147483587))) (gSet 3)) (sRet (c2 pMod (c2 pDiv (cVar 3) (cK (.int 64))) (cVar 1))))))
def Je:List D→FR:=JR 4 [true,false] JaI
theorem ok__law_draw {f:Addr} {fd:FuncData} (F:Fun K "_law_draw" "_law_draw" Yj f fd)  : FnOk P w K mg base (L2.CX P w) 1 f fd ["_law_tape_here", "_law_many"] (spF K mg [true,false] Je):=by
 refine' fn_ok (M:=_) (Vs:=_) F sc__law_draw rfl ?hv fun cdv A outer s H E hr=>?hb
 case hb =>
  have hr:Room 0 (cxOf (L2.CX P w) P w K mg base ["_law_tape_here", "_law_many", "_law_found", "_law_once"] "_law_draw" (defScope Yj) f cdv A outer s H E).A:=hr
  have hN:(cxOf (L2.CX P w) P w K mg base ["_law_tape_here", "_law_many", "_law_found", "_law_once"] "_law_draw" (defScope Yj) f cdv A outer s H E).N.Nodup:=sc__law_draw.nd
  have tk:Takes (cxOf (L2.CX P w) P w K mg base ["_law_tape_here", "_law_many", "_law_found", "_law_once"] "_law_draw" (defScope Yj) f cdv A outer s H E) (fun cls d _ H=>E cls d H):=takes_of rfl rfl rfl rfl
  have hp:=passes_of (X:=cxOf (L2.CX P w) P w K mg base ["_law_tape_here", "_law_many", "_law_found", "_law_once"] "_law_draw" (defScope Yj) f cdv A outer s H E) rfl
  refine'(Jf (Up (JG (JeD hr) (JC hr (Ja 0) (SO.sb Jd)) (SO.sb Jd)) (Jf (Ju hN (Jk ZL (JC hr (Ja 0) (SO.sb Jd)) (Ja 1))) (Jf (Zp (Jk Jdb (JC hr (Ja 0) (SO.sb Jd)) (Ja 1)) (Jax hr (W1:=fun cls d _ H=>E cls d H) (W2:=fun cls d _ H=>E cls d H) (ZG 0) (SO.sb Jd))) (Jr (JH (Ye 2))))) Ys) (Jf (Zp (Jk ZL (SO.sb (Jk JQ (SO.sb (Jk Uv (JC hr (Ja 0) (SO.sb Jd)) (SO.sb Jd))) (SO.sb Jd))) (SO.sb Jd)) (Jax hr (W1:=fun cls d _ H=>E cls d H) (W2:=fun cls d _ H=>E cls d H) (ZG 0) (SO.sb Jd))) (Jf (Ju hN (Jk ZL (SO.sb (Jk Uv (JC hr (Ja 0) (SO.sb Jd)) (SO.sb (Jk JQ (SO.sb (Jk ZL (JC hr (Ja 0) (SO.sb Jd)) (SO.sb Jd))) (SO.sb Jd))))) (SO.sb Jd))) (Jr (JH (Jk ZL (SO.sb (Jk Jdb (Ja 3) (SO.sb Jd))) (Ja 1)))))))
 case hv=>decide
abbrev JW:Stmt:=top 14
theorem sc__law_names:FnScope ["_law_tape_here", "_law_some", "_law_first", "_law_many", "_law_k"] ["_law_tape_here"] (defScope JW):=⟨rfl,rfl,rfl,by decide +kernel,rfl,by decide +kernel,by decide +kernel⟩
def QQ:CS:=(sSeq (sAsg (Jcg (cK (.str "b aa zebra c quartzes ab m knows d mm likes z a ba abcdefgh y")) (cK (.str " "))) (gSet 1)) (sSeq (sAsg (Jo Je (aOw (cMv 0) (some 0) (aRo (cK (.int 16)) aNil))) (gSet 2)) (sSeq (sAsg (cImm (cIdx (cLst (Jb (Jo Je (aOw (cMv 0) (some 0) (aRo (cK (.int 3)) aNil))) (Jb (c2 pAdd (cK (.int 10)) (Jo Je (aOw (cMv 0) (some 0) (aRo (cK (.int 5)) aNil)))) (Jb (c2 pAdd (cK (.int 4)) (Jo Je (aOw (cMv 0) (some 0) (aRo (cK (.int 5)) aNil)))) cNil)))) (cL JcM (Jb (cK (.int 2)) (Jb (Jo Je (aOw (cMv 0) (some 0) (aRo (cK (.int 8)) aNil))) cNil))))) (gSet 3)) (sRet (cLc (Zj (Jb (cVar 3) cNil)) [4] (gSet 4) cYes (cImm (cIdx (cVar 1) (c2 pMod (c2 pAdd (cVar 2) (c2 Zd (cK (.int 5)) (cVar 4))) (cK (.int 16))))))))))
def YW:List D→FR:=JR 5 [true] QQ
theorem ok__law_names {f:Addr} {fd:FuncData} (F:Fun K "_law_names" "_law_names" JW f fd) (z_min:mg "min" = none) (z_range:mg "range" = none) (d__law_draw:Fd P w K mg base 1 "_law_draw" ["_law_tape_here", "_law_many"] [true,false] Je):FnOk P w K mg base (L2.CX P w) 2 f fd ["_law_tape_here"] (spF K mg [true] YW):=by
 refine' fn_ok (M:=_) (Vs:=_) F sc__law_names rfl ?hv fun cdv A outer s H E hr=>?hb
 case hb =>
  have hr:Room 1 (cxOf (L2.CX P w) P w K mg base ["_law_tape_here", "_law_some", "_law_first", "_law_many", "_law_k"] "_law_names" (defScope JW) f cdv A outer s H E).A:=hr
  have hN:(cxOf (L2.CX P w) P w K mg base ["_law_tape_here", "_law_some", "_law_first", "_law_many", "_law_k"] "_law_names" (defScope JW) f cdv A outer s H E).N.Nodup:=sc__law_names.nd
  have tk:Takes (cxOf (L2.CX P w) P w K mg base ["_law_tape_here", "_law_some", "_law_first", "_law_many", "_law_k"] "_law_names" (defScope JW) f cdv A outer s H E) (fun cls d _ H=>E cls d H):=takes_of rfl rfl rfl rfl
  have hp:=passes_of (X:=cxOf (L2.CX P w) P w K mg base ["_law_tape_here", "_law_some", "_law_first", "_law_many", "_law_k"] "_law_names" (defScope JW) f cdv A outer s H E) rfl
  have D__law_draw:=(d__law_draw).mono (k:=1) (by omega)
  refine'(Jf (Ju hN (so_split (SO.sb Zq) (SO.sb Zq) (by rfl) (by rfl) (by rfl))) (Jf (Ju hN (Jm D__law_draw hr tk (Jx (Ji (SO.sb Jd) Jl)))) (Jf (Ju hN (SB.imm (JC hr (SO.sb (JY (Jc (Jm D__law_draw hr tk (Jx (Ji (SO.sb Jd) Jl))) (Jc (Jk JQ (SO.sb Jd) (SO.sb (Jm D__law_draw hr tk (Jx (Ji (SO.sb Jd) Jl))))) (Jc (Jk JQ (SO.sb Jd) (SO.sb (Jm D__law_draw hr tk (Jx (Ji (SO.sb Jd) Jl))))) Jj))))) (SO.sb (Jp (JdL hr rfl) (by rfl) z_min (by rfl) (Jg (SO.sb Jd) (Jg (SO.sb (Jm D__law_draw hr tk (Jx (Ji (SO.sb Jd) Jl)))) Js))))))) (Jr (JH (ZW (own:=[("_law_k", 4)]) [4] rfl hN (Qt (by rfl) z_range (Jg (Ja 3) Js)) (blkOk_by (N:=["_law_tape_here", "_law_some", "_law_first", "_law_many", "_law_k"]) (sc:=defScope JW) (own:=[("_law_k", 4)]) (by decide +kernel)) (fun _ _ _ _ _=>(Jv 4 hN)) (fun _ _ _ _ _=>UK) (fun _ _ _ _ _=>(SB.imm (JC hr (Ja 1) (SO.sb (Jk ZL (SO.sb (Jk JQ (Ja 2) (SO.sb (Jk Uv (SO.sb Jd) (Ja 4))))) (SO.sb Jd)))))) rfl (by decide) (by decide) (by intro _;rfl)))))))
 case hv=>decide
abbrev Yh:Stmt:=top 15
theorem sc__law_turn:FnScope ["_law_tape_here"] ["_law_tape_here"] (defScope Yh):=⟨rfl,rfl,rfl,by decide +kernel,rfl,by decide +kernel,by decide +kernel⟩
def JaG:CS:=(sRet (cImm (cIdx (cLst (Jb (cK (.int 0)) (Jb (cK (.int 0)) (Jb (cK (.int 0)) (Jb (cK (.int 2)) (Jb (cK (.int 3)) (Jb (cK (.int 7)) (Jb (cK (.int 1000)) (Jb (cK (.int 1)) cNil))))))))) (Jo Je (aOw (cMv 0) (some 0) (aRo (cK (.int 8)) aNil))))))
def Uk:List D→FR:=JR 1 [true] JaG
theorem ok__law_turn {f:Addr} {fd:FuncData} (F:Fun K "_law_turn" "_law_turn" Yh f fd) (d__law_draw:Fd P w K mg base 1 "_law_draw" ["_law_tape_here", "_law_many"] [true,false] Je):FnOk P w K mg base (L2.CX P w) 2 f fd ["_law_tape_here"] (spF K mg [true] Uk):=by
 refine' fn_ok (M:=_) (Vs:=_) F sc__law_turn rfl ?hv fun cdv A outer s H E hr=>?hb
 case hb =>
  have hr:Room 1 (cxOf (L2.CX P w) P w K mg base ["_law_tape_here"] "_law_turn" (defScope Yh) f cdv A outer s H E).A:=hr
  have hN:(cxOf (L2.CX P w) P w K mg base ["_law_tape_here"] "_law_turn" (defScope Yh) f cdv A outer s H E).N.Nodup:=sc__law_turn.nd
  have tk:Takes (cxOf (L2.CX P w) P w K mg base ["_law_tape_here"] "_law_turn" (defScope Yh) f cdv A outer s H E) (fun cls d _ H=>E cls d H):=takes_of rfl rfl rfl rfl
  have hp:=passes_of (X:=cxOf (L2.CX P w) P w K mg base ["_law_tape_here"] "_law_turn" (defScope Yh) f cdv A outer s H E) rfl
  have D__law_draw:=(d__law_draw).mono (k:=1) (by omega)
  refine'(Jr (JH (SB.imm (JC hr (SO.sb (JY (Jc Jd (Jc Jd (Jc Jd (Jc Jd (Jc Jd (Jc Jd (Jc Jd (Jc Jd Jj)))))))))) (SO.sb (Jm D__law_draw hr tk (Jx (Ji (SO.sb Jd) Jl))))))))
 case hv=>decide
abbrev JD:Stmt:=top 16
theorem sc__law_joinings:FnScope ["_law_tape_here", "_law_names_here", "_law_turn_here", "_law_found", "_law_wide", "_law_kept", "_law_name", "_law_slips", "_law_turn_by", "_law_way", "_law_step", "_law_one", "_law_other"] ["_law_tape_here", "_law_names_here", "_law_turn_here"] (defScope JD):=⟨rfl,rfl,rfl,by decide +kernel,rfl,by decide +kernel,by decide +kernel⟩
def Ua:CS:=(sSeq (sPar 11 12 (Jb (cImm (cIdx (cVar 1) (Jo Je (aOw (cMv 0) (some 0) (aRo (cL pLen (Jb (cVar 1) cNil)) aNil))))) (Jb (cImm (cIdx (cVar 1) (Jo Je (aOw (cMv 0) (some 0) (aRo (cL pLen (Jb (cVar 1) cNil)) aNil))))) cNil))) (sSeq (sAsg (Jo Je (aOw (cMv 0) (some 0) (aRo (cK (.int 9)) aNil))) (gSet 9)) (sSeq (sIf (cTt (c2 pEq (cVar 9) (cK (.int 0)))) (sAsg (cGet 11) (gSet 12)) sNil) (sSeq (sIf (ZY (cTt (c2 pEq (cVar 9) (cK (.int 1)))) (cTt (c2 pNe (cVar 3) (cLst cNil)))) (sAsg (cSl (cIdx (cVar 3) (Jo Je (aOw (cMv 0) (some 0) (aRo (cL pLen (Jb (cVar 3) cNil)) aNil)))) pNo (pAt (cK (.int 2)))) (UF 2 (JA (gSet 11) (JA (gSet 12) UO)))) sNil) (sSeq (sIf (ZY (cTt (c2 pEq (cVar 9) (cK (.int 2)))) (cTt (c2 pNe (cVar 3) (cLst cNil)))) (sAsg (cSl (cIdx (cVar 3) (Jo Je (aOw (cMv 0) (some 0) (aRo (cL pLen (Jb (cVar 3) cNil)) aNil)))) pNo (pAt (cK (.int 2)))) (UF 2 (JA (gSet 12) (JA (gSet 11) UO)))) sNil) (sSeq (sAsg (c2 pAdd (c2 pSub (cIdx (cVar 5) (cVar 12)) (cIdx (cVar 5) (cVar 11))) (c2 Zd (cVar 2) (c2 pSub (Jo Je (aOw (cMv 0) (some 0) (aRo (cK (.int 5)) aNil))) (cK (.int 2))))) (gSet 10)) (sSeq (sIf (ZY (cTt (c2 pGtG (cVar 7) (cK (.int 0)))) (cTt (c2 pEq (Jo Je (aOw (cMv 0) (some 0) (aRo (cVar 7) aNil))) (cK (.int 0))))) (sAsg (c2 pAdd (cVar 10) (cIdx (cLst (Jb (cK (.int 1)) (Jb (c1 pNeg (cK (.int 1))) (Jb (cK (.int 2)) (Jb (c2 pPow (cK (.int 10)) (cK (.int 11))) cNil))))) (Jo Je (aOw (cMv 0) (some 0) (aRo (cK (.int 4)) aNil))))) (gSet 10)) sNil) (JbP (cMut 3 kdL Qn (lVar 3) (Jb (cTup (Jb (cGet 11) (Jb (cGet 12) (Jb (cGet 10) cNil)))) cNil))))))))))
def ZZ:CS:=(sSeq (sAsg (cLst cNil) (gSet 3)) (sSeq (sAsg (cImm (cIdx (cLst (Jb (cK (.int 3)) (Jb (cK (.int 3)) (Jb (cK (.int 12)) (Jb (cK (.int 12)) (Jb (cK (.int 12)) (Jb (c2 Zd (cK (.int 4)) (c2 pPow (cK (.int 10)) (cK (.int 11)))) cNil))))))) (Jo Je (aOw (cMv 0) (some 0) (aRo (cK (.int 6)) aNil))))) (gSet 4)) (sSeq (sAsg (cL ZS (Jb (cLc (JI (cVar 1)) [6] (gSet 6) cYes (cTup (Jb (cGet 6) (Jb (c2 pSub (Jo Je (aOw (cMv 0) (some 0) (aRo (c2 Zd (cK (.int 2)) (cVar 4)) aNil))) (cVar 4)) cNil)))) cNil)) (gSet 5)) (sSeq (sAsg (cImm (cIdx (cLst (Jb (cK (.int 0)) (Jb (cK (.int 0)) (Jb (cK (.int 3)) (Jb (cK (.int 12)) cNil))))) (Jo Je (aOw (cMv 0) (some 0) (aRo (cK (.int 4)) aNil))))) (gSet 7)) (sSeq (sFor (Zj (Jb (Jo Je (aOw (cMv 0) (some 0) (aRo (c2 pAdd (c2 Zd (cK (.int 2)) (cL pLen (Jb (cVar 1) cNil))) (cK (.int 1))) aNil))) cNil)) (gSet 8) Ua) (sRet (cGet 3)))))))
def Ym:List D→FR:=JR 13 [true,false,false] ZZ
theorem ok__law_joinings {f:Addr} {fd:FuncData} (F:Fun K "_law_joinings" "_law_joinings" JD f fd) (z_dict:mg "dict" = none) (z_len:mg "len" = none) (z_range:mg "range" = none) (d__law_draw:Fd P w K mg base 1 "_law_draw" ["_law_tape_here", "_law_many"] [true,false] Je):FnOk P w K mg base (L2.CX P w) 2 f fd ["_law_tape_here", "_law_names_here", "_law_turn_here"] (spF K mg [true,false,false] Ym):=by
 refine' fn_ok (M:=_) (Vs:=_) F sc__law_joinings rfl ?hv fun cdv A outer s H E hr=>?hb
 case hb =>
  have hr:Room 1 (cxOf (L2.CX P w) P w K mg base ["_law_tape_here", "_law_names_here", "_law_turn_here", "_law_found", "_law_wide", "_law_kept", "_law_name", "_law_slips", "_law_turn_by", "_law_way", "_law_step", "_law_one", "_law_other"] "_law_joinings" (defScope JD) f cdv A outer s H E).A:=hr
  have hN:(cxOf (L2.CX P w) P w K mg base ["_law_tape_here", "_law_names_here", "_law_turn_here", "_law_found", "_law_wide", "_law_kept", "_law_name", "_law_slips", "_law_turn_by", "_law_way", "_law_step", "_law_one", "_law_other"] "_law_joinings" (defScope JD) f cdv A outer s H E).N.Nodup:=sc__law_joinings.nd
  have tk:Takes (cxOf (L2.CX P w) P w K mg base ["_law_tape_here", "_law_names_here", "_law_turn_here", "_law_found", "_law_wide", "_law_kept", "_law_name", "_law_slips", "_law_turn_by", "_law_way", "_law_step", "_law_one", "_law_other"] "_law_joinings" (defScope JD) f cdv A outer s H E) (fun cls d _ H=>E cls d H):=takes_of rfl rfl rfl rfl
  have hp:=passes_of (X:=cxOf (L2.CX P w) P w K mg base ["_law_tape_here", "_law_names_here", "_law_turn_here", "_law_found", "_law_wide", "_law_kept", "_law_name", "_law_slips", "_law_turn_by", "_law_way", "_law_step", "_law_one", "_law_other"] "_law_joinings" (defScope JD) f cdv A outer s H E) rfl
  have D__law_draw:=(d__law_draw).mono (k:=1) (by omega)
  refine'(Jf (Ju hN (JY Jj)) (Jf (Ju hN (SB.imm (JC hr (SO.sb (JY (Jc Jd (Jc Jd (Jc Jd (Jc Jd (Jc Jd (Jc (Jk Uv (SO.sb Jd) (SO.sb (Jk Jcm (SO.sb Jd) (SO.sb Jd)))) Jj)))))))) (SO.sb (Jm D__law_draw hr tk (Jx (Ji (SO.sb Jd) Jl))))))) (Jf (Ju hN (Ux (JcW rfl) (by rfl) z_dict (by rfl) (Jg (SO.sb (ZW (own:=[("_law_name", 6)]) [6] rfl hN (YR (Ja 1)) (blkOk_by (N:=["_law_tape_here", "_law_names_here", "_law_turn_here", "_law_found", "_law_wide", "_law_kept", "_law_name", "_law_slips", "_law_turn_by", "_law_way", "_law_step", "_law_one", "_law_other"]) (sc:=defScope JD) (own:=[("_law_name", 6)]) (by decide +kernel)) (fun _ _ _ _ _=>(Jv 6 hN)) (fun _ _ _ _ _=>UK) (fun _ _ _ _ _=>(YA (Jc (Ye 6) (Jc (Jk ZF (SO.sb (Jm D__law_draw hr takes0 (Jx (Ji (SO.sb (Jk Uv (SO.sb Jd) (Ja 4))) Jl)))) (Ja 4)) Jj)))) rfl (by decide) (by decide) (by intro _;rfl))) Js))) (Jf (Ju hN (SB.imm (JC hr (SO.sb (JY (Jc Jd (Jc Jd (Jc Jd (Jc Jd Jj)))))) (SO.sb (Jm D__law_draw hr tk (Jx (Ji (SO.sb Jd) Jl))))))) (Jf (Zn hp rfl (Qt (by rfl) z_range (Jg (SO.sb (Jm D__law_draw hr tk (Jx (Ji (SO.sb (Jk JQ (SO.sb (Jk Uv (SO.sb Jd) (SO.sb (Jp YX (by rfl) z_len (by rfl) (Jg (Ja 1) Js))))) (SO.sb Jd))) Jl)))) Js)) (Jv 8 hN) (Jf (ss_parI rfl hN (Jc (SB.imm (JC hr (Ja 1) (SO.sb (Jm D__law_draw hr tk (Jx (Ji (SO.sb (Jp YX (by rfl) z_len (by rfl) (Jg (Ja 1) Js))) Jl)))))) (Jc (SB.imm (JC hr (Ja 1) (SO.sb (Jm D__law_draw hr tk (Jx (Ji (SO.sb (Jp YX (by rfl) z_len (by rfl) (Jg (Ja 1) Js))) Jl)))))) Jj))) (Jf (Ju hN (Jm D__law_draw hr tk (Jx (Ji (SO.sb Jd) Jl)))) (Jf (Up (JG (UW hr) (Ja 9) (SO.sb Jd)) (Jr (Ju hN (Ye 11))) Ys) (Jf (Up (SW.st (QF (JG (UW hr) (Ja 9) (SO.sb Jd)) (ZR (JG (QB hr) (Ja 3) (SO.sb (JY Jj)))))) (Jr (Zp (Ud (JC hr (Ja 3) (SO.sb (Jm D__law_draw hr tk (Jx (Ji (SO.sb (Jp YX (by rfl) z_len (by rfl) (Jg (Ja 3) Js))) Jl))))) Qu (ZT (SO.sb Jd)) (by decide)) (Qe rfl (JS (Jv 11 hN) (JS (Jv 12 hN) Zk))))) Ys) (Jf (Up (SW.st (QF (JG (UW hr) (Ja 9) (SO.sb Jd)) (ZR (JG (QB hr) (Ja 3) (SO.sb (JY Jj)))))) (Jr (Zp (Ud (JC hr (Ja 3) (SO.sb (Jm D__law_draw hr tk (Jx (Ji (SO.sb (Jp YX (by rfl) z_len (by rfl) (Jg (Ja 3) Js))) Jl))))) Qu (ZT (SO.sb Jd)) (by decide)) (Qe rfl (JS (Jv 12 hN) (JS (Jv 11 hN) Zk))))) Ys) (Jf (Ju hN (Jk JQ (SO.sb (Jk ZF (JC hr (Ja 5) (Ja 12)) (JC hr (Ja 5) (Ja 11)))) (SO.sb (Jk Uv (Ja 2) (SO.sb (Jk ZF (SO.sb (Jm D__law_draw hr tk (Jx (Ji (SO.sb Jd) Jl)))) (SO.sb Jd))))))) (Jf (Up (SW.st (QF (JG (JeD hr) (Ja 7) (SO.sb Jd)) (ZR (JG (UW hr) (SO.sb (Jm D__law_draw hr tk (Jx (Ji (Ja 7) Jl)))) (SO.sb Jd))))) (Jr (Ju hN (Jk JQ (Ja 10) (JC hr (SO.sb (JY (Jc Jd (Jc (Jch (SO.sb Jd)) (Jc Jd (Jc (Jk Jcm (SO.sb Jd) (SO.sb Jd)) Jj)))))) (SO.sb (Jm D__law_draw hr tk (Jx (Ji (SO.sb Jd) Jl)))))))) Ys) (Jr (Jcd (SO.sb (JdK (ZG 3) (Jc (YA (Jc (Ye 11) (Jc (Ye 12) (Jc (Ye 10) Jj)))) Jj) (by decide) (by rfl) (by rfl) (by rfl) (by rfl) (by rfl))))))))))))) (Jr (JH (Ye 3))))))))
 case hv=>decide
abbrev Jw:Stmt:=top 18
theorem sc__law_classes:FnScope ["_law_names_here", "_law_joinings_here", "_law_groups", "_law_name", "_law_one", "_law_other", "_law_step", "_law_first", "_law_second", "_law_group"] ["_law_names_here", "_law_joinings_here"] (defScope Jw):=⟨rfl,rfl,rfl,by decide +kernel,rfl,by decide +kernel,by decide +kernel⟩
def UH:CS:=(sSeq (sAsg (cImm (cIdx (cLc (JI (cVar 2)) [9] (gSet 9) (cTt (c2 pInW (cVar 4) (cVar 9))) (cGet 9)) (cK (.int 0)))) (gSet 7)) (sSeq (sAsg (cImm (cIdx (cLc (JI (cVar 2)) [9] (gSet 9) (cTt (c2 pInW (cVar 5) (cVar 9))) (cGet 9)) (cK (.int 0)))) (gSet 8)) (sIf (cTt (c2 pNe (cVar 7) (cVar 8))) (sAsg (cFix (c2 pAdd (cLc (JI (cVar 2)) [9] (gSet 9) (ZY (cTt (c2 pNe (cVar 9) (cVar 7))) (cTt (c2 pNe (cVar 9) (cVar 8)))) (cGet 9)) (cLst (Jb (cFix (c2 pAdd (cVar 7) (cVar 8))) cNil)))) (gSet 2)) sNil)))
def Zg:CS:=(sSeq (sAsg (cLc (JI (cVar 0)) [3] (gSet 3) cYes (cLst (Jb (cGet 3) cNil))) (gSet 2)) (sSeq (Jdu 2 (sFor (JI (cVar 1)) (UF 3 (JA (gSet 4) (JA (gSet 5) (JA (gSet 6) UO)))) UH)) (sRet (JbI (cLc (JI (cVar 2)) [9] (gSet 9) cYes (cL JV (Jb (cVar 9) cNil)))))))
def JO:List D→FR:=JR 10 [false,false] Zg
theorem ok__law_classes {f:Addr} {fd:FuncData} (F:Fun K "_law_classes" "_law_classes" Jw f fd) (z_sorted:mg "sorted" = none):FnOk P w K mg base (L2.CX P w) 1 f fd ["_law_names_here", "_law_joinings_here"] (spF K mg [false,false] JO):=by
 refine' fn_ok (M:=_) (Vs:=_) F sc__law_classes rfl ?hv fun cdv A outer s H E hr=>?hb
 case hb =>
  have hr:Room 0 (cxOf (L2.CX P w) P w K mg base ["_law_names_here", "_law_joinings_here", "_law_groups", "_law_name", "_law_one", "_law_other", "_law_step", "_law_first", "_law_second", "_law_group"] "_law_classes" (defScope Jw) f cdv A outer s H E).A:=hr
  have hN:(cxOf (L2.CX P w) P w K mg base ["_law_names_here", "_law_joinings_here", "_law_groups", "_law_name", "_law_one", "_law_other", "_law_step", "_law_first", "_law_second", "_law_group"] "_law_classes" (defScope Jw) f cdv A outer s H E).N.Nodup:=sc__law_classes.nd
  have tk:Takes (cxOf (L2.CX P w) P w K mg base ["_law_names_here", "_law_joinings_here", "_law_groups", "_law_name", "_law_one", "_law_other", "_law_step", "_law_first", "_law_second", "_law_group"] "_law_classes" (defScope Jw) f cdv A outer s H E) (fun cls d _ H=>E cls d H):=takes_of rfl rfl rfl rfl
  have hp:=passes_of (X:=cxOf (L2.CX P w) P w K mg base ["_law_names_here", "_law_joinings_here", "_law_groups", "_law_name", "_law_one", "_law_other", "_law_step", "_law_first", "_law_second", "_law_group"] "_law_classes" (defScope Jw) f cdv A outer s H E) rfl
  refine'(Jf (ss_setLc (own:=[("_law_name", 3)]) [3] rfl hN (YR (Ja 0)) (blkOk_by (N:=["_law_names_here", "_law_joinings_here", "_law_groups", "_law_name", "_law_one", "_law_other", "_law_step", "_law_first", "_law_second", "_law_group"]) (sc:=defScope Jw) (own:=[("_law_name", 3)]) (by decide +kernel)) (fun _ _ _ _ _=>(Jv 3 hN)) (fun _ _ _ _ _=>UK) (fun _ _ _ _ _=>(JY (Jc (Ye 3) Jj))) rfl (by decide) (by decide) (by intro _;rfl) (by rfl) (by rfl) (by rfl)) (Jf (ss_fixB 2 (Zn hp rfl (YR (Ja 1)) (Qe rfl (JS (Jv 4 hN) (JS (Jv 5 hN) (JS (Jv 6 hN) Zk)))) (Jf (Ju hN (SB.imm (JC hr (SO.sb (ZW (own:=[("_law_group", 9)]) [9] rfl hN (YR (Ja 2)) (blkOk_by (N:=["_law_names_here", "_law_joinings_here", "_law_groups", "_law_name", "_law_one", "_law_other", "_law_step", "_law_first", "_law_second", "_law_group"]) (sc:=defScope Jw) (own:=[("_law_group", 9)]) (by decide +kernel)) (fun _ _ _ _ _=>(Jv 9 hN)) (fun _ _ _ _ _=>(Jcb (JG (Jba hr) (Ja 4) (Ja 9)))) (fun _ _ _ _ _=>(Ye 9)) rfl (by decide) (by decide) (by intro _;rfl))) (SO.sb Jd)))) (Jf (Ju hN (SB.imm (JC hr (SO.sb (ZW (own:=[("_law_group", 9)]) [9] rfl hN (YR (Ja 2)) (blkOk_by (N:=["_law_names_here", "_law_joinings_here", "_law_groups", "_law_name", "_law_one", "_law_other", "_law_step", "_law_first", "_law_second", "_law_group"]) (sc:=defScope Jw) (own:=[("_law_group", 9)]) (by decide +kernel)) (fun _ _ _ _ _=>(Jv 9 hN)) (fun _ _ _ _ _=>(Jcb (JG (Jba hr) (Ja 5) (Ja 9)))) (fun _ _ _ _ _=>(Ye 9)) rfl (by decide) (by decide) (by intro _;rfl))) (SO.sb Jd)))) (Jr (Up (JG (QB hr) (Ja 7) (Ja 8)) (Jr (Ju hN (UT (Jk JQ (SO.sb (ZW (own:=[("_law_group", 9)]) [9] rfl hN (YR (Ja 2)) (blkOk_by (N:=["_law_names_here", "_law_joinings_here", "_law_groups", "_law_name", "_law_one", "_law_other", "_law_step", "_law_first", "_law_second", "_law_group"]) (sc:=defScope Jw) (own:=[("_law_group", 9)]) (by decide +kernel)) (fun _ _ _ _ _=>(Jv 9 hN)) (fun _ _ _ _ _=>(Jcb (SW.st (QF (JG (QB hr) (Ja 9) (Ja 7)) (ZR (JG (QB hr) (Ja 9) (Ja 8))))))) (fun _ _ _ _ _=>(Ye 9)) rfl (by decide) (by decide) (by intro _;rfl))) (SO.sb (JY (Jc (UT (Jk JQ (Ja 7) (Ja 8))) Jj))))))) Ys)))))) (Jr (JH (so_sortM hr (by rfl) z_sorted (ZW (own:=[("_law_group", 9)]) [9] rfl hN (YR (Ja 2)) (blkOk_by (N:=["_law_names_here", "_law_joinings_here", "_law_groups", "_law_name", "_law_one", "_law_other", "_law_step", "_law_first", "_law_second", "_law_group"]) (sc:=defScope Jw) (own:=[("_law_group", 9)]) (by decide +kernel)) (fun _ _ _ _ _=>(Jv 9 hN)) (fun _ _ _ _ _=>UK) (fun _ _ _ _ _=>(Jp (QH hr rfl) (by rfl) z_sorted (by rfl) (Jg (Ja 9) Js))) rfl (by decide) (by decide) (by intro _;rfl)))))))
 case hv=>decide
abbrev JL:Stmt:=top 19
theorem sc__law_numbers:FnScope ["_law_names_here", "_law_joinings_here", "_law_found", "_law_group", "_law_again", "_law_one", "_law_other", "_law_step"] ["_law_names_here", "_law_joinings_here"] (defScope JL):=⟨rfl,rfl,rfl,by decide +kernel,rfl,by decide +kernel,by decide +kernel⟩
def Ul:CS:=(sSeq (sIf (ZY (cTt (c2 pInW (cVar 5) (cVar 2))) (cTt (c2 QN (cVar 6) (cVar 2)))) (sAsg (c2 pAdd (cIdx (cVar 2) (cVar 5)) (cVar 7)) (Ql 2 (lVar 2) (cVar 6))) sNil) (sIf (ZY (cTt (c2 pInW (cVar 6) (cVar 2))) (cTt (c2 QN (cVar 5) (cVar 2)))) (sAsg (c2 pSub (cIdx (cVar 2) (cVar 6)) (cVar 7)) (Ql 2 (lVar 2) (cVar 5))) sNil))
def Ui:CS:=(sFor (JI (cVar 1)) (UF 3 (JA (gSet 5) (JA (gSet 6) (JA (gSet 7) UO)))) Ul)
def YF:CS:=(sSeq (sAsg (cK (.int 0)) (Ql 2 (lVar 2) (cIdx (cVar 3) (cK (.int 0))))) (sFor (JI (cVar 3)) (gSet 4) Ui))
def Qh:CS:=(sSeq (sAsg (cK (.dct .m [] [])) (gSet 2)) (sSeq (sFor (JI (cFix (Jo JO (aRo (cVar 0) (aRo (cVar 1) aNil))))) (gSet 3) YF) (sRet (cGet 2))))
def YT:List D→FR:=JR 8 [false,false] Qh
theorem ok__law_numbers {f:Addr} {fd:FuncData} (F:Fun K "_law_numbers" "_law_numbers" JL f fd) (d__law_classes:Fd P w K mg base 1 "_law_classes" ["_law_names_here", "_law_joinings_here"] [false,false] JO):FnOk P w K mg base (L2.CX P w) 2 f fd ["_law_names_here", "_law_joinings_here"] (spF K mg [false,false] YT):=by
 refine' fn_ok (M:=_) (Vs:=_) F sc__law_numbers rfl ?hv fun cdv A outer s H E hr=>?hb
 case hb =>
  have hr:Room 1 (cxOf (L2.CX P w) P w K mg base ["_law_names_here", "_law_joinings_here", "_law_found", "_law_group", "_law_again", "_law_one", "_law_other", "_law_step"] "_law_numbers" (defScope JL) f cdv A outer s H E).A:=hr
  have hN:(cxOf (L2.CX P w) P w K mg base ["_law_names_here", "_law_joinings_here", "_law_found", "_law_group", "_law_again", "_law_one", "_law_other", "_law_step"] "_law_numbers" (defScope JL) f cdv A outer s H E).N.Nodup:=sc__law_numbers.nd
  have tk:Takes (cxOf (L2.CX P w) P w K mg base ["_law_names_here", "_law_joinings_here", "_law_found", "_law_group", "_law_again", "_law_one", "_law_other", "_law_step"] "_law_numbers" (defScope JL) f cdv A outer s H E) (fun cls d _ H=>E cls d H):=takes_of rfl rfl rfl rfl
  have hp:=passes_of (X:=cxOf (L2.CX P w) P w K mg base ["_law_names_here", "_law_joinings_here", "_law_found", "_law_group", "_law_again", "_law_one", "_law_other", "_law_step"] "_law_numbers" (defScope JL) f cdv A outer s H E) rfl
  have D__law_classes:=(d__law_classes).mono (k:=1) (by omega)
  refine'(Jf (Ju hN Jc1) (Jf (Zn hp rfl (YR (SO.sb (UT (Jm D__law_classes hr tk (Ji (Ja 0) (Ji (Ja 1) Jl)))))) (Jv 3 hN) (Jf (Zp Jd (Jax hr (W1:=fun cls d _ H=>E cls d H) (W2:=fun cls d _ H=>E cls d H) (ZG 2) (JC hr (Ja 3) (SO.sb Jd)))) (Jr (Zn hp rfl (YR (Ja 3)) (Jv 4 hN) (Jr (Zn hp rfl (YR (Ja 1)) (Qe rfl (JS (Jv 5 hN) (JS (Jv 6 hN) (JS (Jv 7 hN) Zk)))) (Jf (Up (SW.st (QF (JG (Jba hr) (Ja 5) (Ja 2)) (ZR (JG (JcH hr) (Ja 6) (Ja 2))))) (Jr (Zp (Jk JQ (JC hr (Ja 2) (Ja 5)) (Ja 7)) (Jax hr (W1:=fun cls d _ H=>E cls d H) (W2:=fun cls d _ H=>E cls d H) (ZG 2) (Ja 6)))) Ys) (Jr (Up (SW.st (QF (JG (Jba hr) (Ja 6) (Ja 2)) (ZR (JG (JcH hr) (Ja 5) (Ja 2))))) (Jr (Zp (Jk ZF (JC hr (Ja 2) (Ja 6)) (Ja 7)) (Jax hr (W1:=fun cls d _ H=>E cls d H) (W2:=fun cls d _ H=>E cls d H) (ZG 2) (Ja 5)))) Ys))))))))) (Jr (JH (Ye 2)))))
 case hv=>decide
abbrev Yk:Stmt:=top 24
theorem sc__law_rows:FnScope ["_law_tape_here", "_law_names_here", "_law_joinings_here", "_law_turn_here", "_law_numbers_here", "_law_rows_here", "_law_group", "_law_off", "_law_name", "_law_row"] ["_law_tape_here", "_law_names_here", "_law_joinings_here", "_law_turn_here"] (defScope Yk):=⟨rfl,rfl,rfl,by decide +kernel,rfl,by decide +kernel,by decide +kernel⟩
def UL:CS:=(sSeq (sAsg (cTup (Jdo 8 (Jb (c2 pAdd (c2 pAdd (cIdx (cVar 4) (cVar 8)) (cVar 7)) (c2 Zd (cVar 3) (c2 pSub (Jo Je (aOw (cMv 0) (some 0) (aRo (cK (.int 3)) aNil))) (cK (.int 1))))) cNil))) (gSet 9)) (JbP (cMut 5 kdL Qp (lVar 5) (Jb (Jo Je (aOw (cMv 0) (some 0) (aRo (c2 pAdd (cL pLen (Jb (cVar 5) cNil)) (cK (.int 1))) aNil))) (Jb (cImm (cVar 9)) cNil)))))
def UJ:CS:=(sSeq (sAsg (cImm (cIdx (cLst (Jb (cK (.int 0)) (Jb (cK (.int 5)) (Jb (c1 pNeg (c2 pPow (cK (.int 10)) (cK (.int 9)))) cNil)))) (Jo Je (aOw (cMv 0) (some 0) (aRo (cK (.int 3)) aNil))))) (gSet 7)) (sFor (JI (cVar 6)) (gSet 8) UL))
def JaJ:CS:=(sSeq (sAsg (Jo YT (aRo (cVar 1) (aRo (cVar 2) aNil))) (gSet 4)) (sSeq (sAsg (cLst cNil) (gSet 5)) (sSeq (sFor (JI (cFix (Jo JO (aRo (cVar 1) (aRo (cVar 2) aNil))))) (gSet 6) UJ) (sRet (cGet 5)))))
def UC:List D→FR:=JR 10 [true,false,false,false] JaJ
theorem ok__law_rows {f:Addr} {fd:FuncData} (F:Fun K "_law_rows" "_law_rows" Yk f fd) (z_len:mg "len" = none) (d__law_numbers:Fd P w K mg base 2 "_law_numbers" ["_law_names_here", "_law_joinings_here"] [false,false] YT) (d__law_classes:Fd P w K mg base 1 "_law_classes" ["_law_names_here", "_law_joinings_here"] [false,false] JO) (d__law_draw:Fd P w K mg base 1 "_law_draw" ["_law_tape_here", "_law_many"] [true,false] Je):FnOk P w K mg base (L2.CX P w) 3 f fd ["_law_tape_here", "_law_names_here", "_law_joinings_here", "_law_turn_here"] (spF K mg [true,false,false,false] UC):=by
 refine' fn_ok (M:=_) (Vs:=_) F sc__law_rows rfl ?hv fun cdv A outer s H E hr=>?hb
 case hb =>
  have hr:Room 2 (cxOf (L2.CX P w) P w K mg base ["_law_tape_here", "_law_names_here", "_law_joinings_here", "_law_turn_here", "_law_numbers_here", "_law_rows_here", "_law_group", "_law_off", "_law_name", "_law_row"] "_law_rows" (defScope Yk) f cdv A outer s H E).A:=hr
  have hN:(cxOf (L2.CX P w) P w K mg base ["_law_tape_here", "_law_names_here", "_law_joinings_here", "_law_turn_here", "_law_numbers_here", "_law_rows_here", "_law_group", "_law_off", "_law_name", "_law_row"] "_law_rows" (defScope Yk) f cdv A outer s H E).N.Nodup:=sc__law_rows.nd
  have tk:Takes (cxOf (L2.CX P w) P w K mg base ["_law_tape_here", "_law_names_here", "_law_joinings_here", "_law_turn_here", "_law_numbers_here", "_law_rows_here", "_law_group", "_law_off", "_law_name", "_law_row"] "_law_rows" (defScope Yk) f cdv A outer s H E) (fun cls d _ H=>E cls d H):=takes_of rfl rfl rfl rfl
  have hp:=passes_of (X:=cxOf (L2.CX P w) P w K mg base ["_law_tape_here", "_law_names_here", "_law_joinings_here", "_law_turn_here", "_law_numbers_here", "_law_rows_here", "_law_group", "_law_off", "_law_name", "_law_row"] "_law_rows" (defScope Yk) f cdv A outer s H E) rfl
  have D__law_numbers:=(d__law_numbers).mono (k:=2) (by omega)
  have D__law_classes:=(d__law_classes).mono (k:=2) (by omega)
  have D__law_draw:=(d__law_draw).mono (k:=2) (by omega)
  refine'(Jf (Ju hN (Jm D__law_numbers hr tk (Ji (Ja 1) (Ji (Ja 2) Jl)))) (Jf (Ju hN (JY Jj)) (Jf (Zn hp rfl (YR (SO.sb (UT (Jm D__law_classes hr tk (Ji (Ja 1) (Ji (Ja 2) Jl)))))) (Jv 6 hN) (Jf (Ju hN (SB.imm (JC hr (SO.sb (JY (Jc Jd (Jc Jd (Jc (Jch (SO.sb (Jk Jcm (SO.sb Jd) (SO.sb Jd)))) Jj))))) (SO.sb (Jm D__law_draw hr tk (Jx (Ji (SO.sb Jd) Jl))))))) (Jr (Zn hp rfl (YR (Ja 6)) (Jv 8 hN) (Jf (Ju hN (YA (sao_late 8 (Jc (Jk JQ (SO.sb (Jk JQ (JC hr (Ja 4) (Ja 8)) (Ja 7))) (SO.sb (Jk Uv (Ja 3) (SO.sb (Jk ZF (SO.sb (Jm D__law_draw hr tk (Jx (Ji (SO.sb Jd) Jl)))) (SO.sb Jd)))))) Jj) (by decide) (by rfl) (by first | exact Or.inl rfl | exact Or.inr (Or.inl rfl) | exact Or.inr (Or.inr rfl)) (by decide) (by decide) (by rfl)))) (Jr (Jcd (SO.sb (so_insert (ZG 5) (Jc (Jm D__law_draw hr tk (Jx (Ji (SO.sb (Jk JQ (SO.sb (Jp YX (by rfl) z_len (by rfl) (Jg (Ja 5) Js))) (SO.sb Jd))) Jl))) (Jc (SB.imm (Ja 9)) Jj)) (by decide) (by rfl) (by rfl) (by rfl) (by rfl) (by rfl)))))))))) (Jr (JH (Ye 5))))))
 case hv=>decide
abbrev Yz:Stmt:=top 20
theorem sc__law_odd:FnScope ["_law_tape_here", "_law_some"] ["_law_tape_here"] (defScope Yz):=⟨rfl,rfl,rfl,by decide +kernel,rfl,by decide +kernel,by decide +kernel⟩
def Ja9:CS:=(sSeq (sAsg (cFix (cLst (Jb (cK .non) (Jb (cK (.bl true)) (Jb (cK (.bl false)) (Jb (cK (.int 0)) (Jb (c1 pNeg (cK (.int 1))) (Jb (cK (.int 7)) (Jb (cK (.str "")) (Jb (cK (.str "a")) (Jb (cK (.str "nobody")) (Jb (JbU cNil) (Jb (cLst cNil) (Jb (cTup (Jb (cK (.int 0)) cNil)) (Jb (cTup (Jb (cK (.int 0)) (Jb (cK (.int 1)) cNil))) (Jb (cTup (Jb (cK (.int 0)) (Jb (cK (.int 2)) cNil))) (Jb (cTup (Jb (cK (.bl true)) (Jb (cK (.int 1)) cNil))) (Jb (cTup (Jb (cK (.int 0)) (Jb (cK (.bl true)) cNil))) (Jb (cLst (Jb (cK (.int 0)) (Jb (cK (.int 1)) cNil))) cNil))))))))))))))))))) (gSet 1)) (sSeq (sAsg (c2 pAdd (cVar 1) (cFix (cLst (Jb (cTup (Jb (cK (.int 0)) (Jb (cK (.int 1)) (Jb (cK (.int 1)) cNil)))) (Jb (cTup (Jb (cK (.str "a")) (Jb (cK (.int 0)) cNil))) (Jb (cLst (Jb (cK (.str "a")) (Jb (cK (.int 0)) cNil))) (Jb (JbU (Jb (cTup (Jb (cK (.str "a")) (Jb (cK (.int 0)) cNil))) cNil)) (Jb (cLst (Jb (cLst cNil) cNil)) (Jb (cTup (Jb (cK (.str "a")) (Jb (cK .non) cNil))) (Jb (cTup (Jb (cK .non) (Jb (cK (.int 1)) cNil))) (Jb (cTup (Jb (cK (.str "0")) (Jb (cK (.int 1)) cNil))) cNil))))))))))) (gSet 1)) (sRet (cImm (cIdx (cVar 1) (Jo Je (aOw (cMv 0) (some 0) (aRo (cL pLen (Jb (cVar 1) cNil)) aNil))))))))
def Ub:List D→FR:=JR 2 [true] Ja9
theorem ok__law_odd {f:Addr} {fd:FuncData} (F:Fun K "_law_odd" "_law_odd" Yz f fd) (z_len:mg "len" = none) (d__law_draw:Fd P w K mg base 1 "_law_draw" ["_law_tape_here", "_law_many"] [true,false] Je):FnOk P w K mg base (L2.CX P w) 2 f fd ["_law_tape_here"] (spF K mg [true] Ub):=by
 refine' fn_ok (M:=_) (Vs:=_) F sc__law_odd rfl ?hv fun cdv A outer s H E hr=>?hb
 case hb =>
  have hr:Room 1 (cxOf (L2.CX P w) P w K mg base ["_law_tape_here", "_law_some"] "_law_odd" (defScope Yz) f cdv A outer s H E).A:=hr
  have hN:(cxOf (L2.CX P w) P w K mg base ["_law_tape_here", "_law_some"] "_law_odd" (defScope Yz) f cdv A outer s H E).N.Nodup:=sc__law_odd.nd
  have tk:Takes (cxOf (L2.CX P w) P w K mg base ["_law_tape_here", "_law_some"] "_law_odd" (defScope Yz) f cdv A outer s H E) (fun cls d _ H=>E cls d H):=takes_of rfl rfl rfl rfl
  have hp:=passes_of (X:=cxOf (L2.CX P w) P w K mg base ["_law_tape_here", "_law_some"] "_law_odd" (defScope Yz) f cdv A outer s H E) rfl
  have D__law_draw:=(d__law_draw).mono (k:=1) (by omega)
  refine'(Jf (Ju hN (UT (JY (Jc Jc7 (Jc ZX (Jc ZX (Jc Jd (Jc (Jch (SO.sb Jd)) (Jc Jd (Jc Zq (Jc Zq (Jc Zq (Jc (Jdq Jj) (Jc (JY Jj) (Jc (YA (Jc Jd Jj)) (Jc (YA (Jc Jd (Jc Jd Jj))) (Jc (YA (Jc Jd (Jc Jd Jj))) (Jc (YA (Jc ZX (Jc Jd Jj))) (Jc (YA (Jc Jd (Jc ZX Jj))) (Jc (JY (Jc Jd (Jc Jd Jj))) Jj)))))))))))))))))))) (Jf (Ju hN (Jk JQ (Ja 1) (SO.sb (UT (JY (Jc (YA (Jc Jd (Jc Jd (Jc Jd Jj)))) (Jc (YA (Jc Zq (Jc Jd Jj))) (Jc (JY (Jc Zq (Jc Jd Jj))) (Jc (Jdq (Jc (YA (Jc Zq (Jc Jd Jj))) Jj)) (Jc (JY (Jc (JY Jj) Jj)) (Jc (YA (Jc Zq (Jc Jc7 Jj))) (Jc (YA (Jc Jc7 (Jc Jd Jj))) (Jc (YA (Jc Zq (Jc Jd Jj))) Jj))))))))))))) (Jr (JH (SB.imm (JC hr (Ja 1) (SO.sb (Jm D__law_draw hr tk (Jx (Ji (SO.sb (Jp YX (by rfl) z_len (by rfl) (Jg (Ja 1) Js))) Jl))))))))))
 case hv=>decide
abbrev Yl:Stmt:=top 21
theorem sc__law_bent:FnScope ["_law_tape_here", "_law_some", "_law_thing", "_law_at", "_law_way"] ["_law_tape_here", "_law_some", "_law_thing"] (defScope Yl):=⟨rfl,rfl,rfl,by decide +kernel,rfl,by decide +kernel,by decide +kernel⟩
def Qj:CS:=(sSeq (sAsg (Jo Je (aOw (cMv 0) (some 0) (aRo (c2 pAdd (cL pLen (Jb (cVar 1) cNil)) (cK (.int 1))) aNil))) (gSet 3)) (sSeq (sAsg (Jo Je (aOw (cMv 0) (some 0) (aRo (cK (.int 5)) aNil))) (gSet 4)) (sSeq (sIf (cTt (c2 pEq (cVar 4) (cK (.int 0)))) (sRet (c2 pAdd (cSl (cVar 1) pNo (pAt (cVar 3))) (cSl (cVar 1) (pAt (c2 pAdd (cVar 3) (cK (.int 1)))) pNo))) sNil) (sSeq (sIf (cTt (c2 pEq (cVar 4) (cK (.int 1)))) (sRet (c2 pAdd (c2 pAdd (cSl (cVar 1) pNo (pAt (cVar 3))) (cSl (cVar 1) (pAt (cVar 3)) (pAt (c2 pAdd (cVar 3) (cK (.int 1)))))) (cSl (cVar 1) (pAt (cVar 3)) pNo))) sNil) (sSeq (sIf (cTt (c2 pEq (cVar 4) (cK (.int 2)))) (sRet (c2 pAdd (c2 pAdd (cSl (cVar 1) pNo (pAt (cVar 3))) (cLst (Jb (cGet 2) cNil))) (cSl (cVar 1) (pAt (c2 pAdd (cVar 3) (cK (.int 1)))) pNo))) sNil) (sRet (c2 pAdd (c2 pAdd (cSl (cVar 1) pNo (pAt (cVar 3))) (cLst (Jb (cGet 2) cNil))) (cSl (cVar 1) (pAt (cVar 3)) pNo))))))))
def Uo:List D→FR:=JR 5 [true,false,true] Qj
theorem ok__law_bent {f:Addr} {fd:FuncData} (F:Fun K "_law_bent" "_law_bent" Yl f fd) (z_len:mg "len" = none) (d__law_draw:Fd P w K mg base 1 "_law_draw" ["_law_tape_here", "_law_many"] [true,false] Je):FnOk P w K mg base (L2.CX P w) 2 f fd ["_law_tape_here", "_law_some", "_law_thing"] (spF K mg [true,false,true] Uo):=by
 refine' fn_ok (M:=_) (Vs:=_) F sc__law_bent rfl ?hv fun cdv A outer s H E hr=>?hb
 case hb =>
  have hr:Room 1 (cxOf (L2.CX P w) P w K mg base ["_law_tape_here", "_law_some", "_law_thing", "_law_at", "_law_way"] "_law_bent" (defScope Yl) f cdv A outer s H E).A:=hr
  have hN:(cxOf (L2.CX P w) P w K mg base ["_law_tape_here", "_law_some", "_law_thing", "_law_at", "_law_way"] "_law_bent" (defScope Yl) f cdv A outer s H E).N.Nodup:=sc__law_bent.nd
  have tk:Takes (cxOf (L2.CX P w) P w K mg base ["_law_tape_here", "_law_some", "_law_thing", "_law_at", "_law_way"] "_law_bent" (defScope Yl) f cdv A outer s H E) (fun cls d _ H=>E cls d H):=takes_of rfl rfl rfl rfl
  have hp:=passes_of (X:=cxOf (L2.CX P w) P w K mg base ["_law_tape_here", "_law_some", "_law_thing", "_law_at", "_law_way"] "_law_bent" (defScope Yl) f cdv A outer s H E) rfl
  have D__law_draw:=(d__law_draw).mono (k:=1) (by omega)
  refine'(Jf (Ju hN (Jm D__law_draw hr tk (Jx (Ji (SO.sb (Jk JQ (SO.sb (Jp YX (by rfl) z_len (by rfl) (Jg (Ja 1) Js))) (SO.sb Jd))) Jl)))) (Jf (Ju hN (Jm D__law_draw hr tk (Jx (Ji (SO.sb Jd) Jl)))) (Jf (Up (JG (UW hr) (Ja 4) (SO.sb Jd)) (Jr (JH (Jk JQ (SO.sb (Ud (Ja 1) Qu (ZT (Ja 3)) (by decide))) (SO.sb (Ud (Ja 1) (ZT (SO.sb (Jk JQ (Ja 3) (SO.sb Jd)))) Qu (by decide)))))) Ys) (Jf (Up (JG (UW hr) (Ja 4) (SO.sb Jd)) (Jr (JH (Jk JQ (SO.sb (Jk JQ (SO.sb (Ud (Ja 1) Qu (ZT (Ja 3)) (by decide))) (SO.sb (Ud (Ja 1) (ZT (Ja 3)) (ZT (SO.sb (Jk JQ (Ja 3) (SO.sb Jd)))) (by decide))))) (SO.sb (Ud (Ja 1) (ZT (Ja 3)) Qu (by decide)))))) Ys) (Jf (Up (JG (UW hr) (Ja 4) (SO.sb Jd)) (Jr (JH (Jk JQ (SO.sb (Jk JQ (SO.sb (Ud (Ja 1) Qu (ZT (Ja 3)) (by decide))) (SO.sb (JY (Jc (Ye 2) Jj))))) (SO.sb (Ud (Ja 1) (ZT (SO.sb (Jk JQ (Ja 3) (SO.sb Jd)))) Qu (by decide)))))) Ys) (Jr (JH (Jk JQ (SO.sb (Jk JQ (SO.sb (Ud (Ja 1) Qu (ZT (Ja 3)) (by decide))) (SO.sb (JY (Jc (Ye 2) Jj))))) (SO.sb (Ud (Ja 1) (ZT (Ja 3)) Qu (by decide)))))))))))
 case hv=>decide
abbrev YU:Stmt:=top 5
theorem sc_is_list:FnScope ["thing"] ["thing"] (defScope YU):=⟨rfl,rfl,rfl,by decide +kernel,rfl,by decide +kernel,by decide +kernel⟩
def JbR:CS:=(sRet (cL pIsi (Jb (cVar 0) (Jb (cTup (Jb (cK (.ty "list")) (Jb (cK (.ty "tuple")) cNil))) cNil))))
def Yn:List D→FR:=JR 1 [false] JbR
theorem ok_is_list {f:Addr} {fd:FuncData} (F:Fun K "is_list" "is_list" YU f fd) (z_list:mg "list" = none) (z_tuple:mg "tuple" = none) (z_isinstance:mg "isinstance" = none):FnOk P w K mg base (L2.CX P w) 1 f fd ["thing"] (spF K mg [false] Yn):=by
 refine' fn_ok (M:=_) (Vs:=_) F sc_is_list rfl ?hv fun cdv A outer s H E hr=>?hb
 case hb =>
  have hr:Room 0 (cxOf (L2.CX P w) P w K mg base ["thing"] "is_list" (defScope YU) f cdv A outer s H E).A:=hr
  have hN:(cxOf (L2.CX P w) P w K mg base ["thing"] "is_list" (defScope YU) f cdv A outer s H E).N.Nodup:=sc_is_list.nd
  have tk:Takes (cxOf (L2.CX P w) P w K mg base ["thing"] "is_list" (defScope YU) f cdv A outer s H E) (fun cls d _ H=>E cls d H):=takes_of rfl rfl rfl rfl
  have hp:=passes_of (X:=cxOf (L2.CX P w) P w K mg base ["thing"] "is_list" (defScope YU) f cdv A outer s H E) rfl
  refine'(Jr (JH (Jp Zf (by rfl) z_isinstance (by rfl) (Jg (Ja 0) (Jg (SO.sb (YA (Jc (ZA (by rfl) z_list (by rfl)) (Jc (ZA (by rfl) z_tuple (by rfl)) Jj)))) Js)))))
 case hv=>decide
abbrev Yi:Stmt:=top 4
theorem sc_is_row_of:FnScope ["thing", "many"] ["thing", "many"] (defScope Yi):=⟨rfl,rfl,rfl,by decide +kernel,rfl,by decide +kernel,by decide +kernel⟩
def JaH:CS:=(sRet (cAnd (cL pIsi (Jb (cVar 0) (Jb (cK (.ty "tuple")) cNil))) (c2 pEq (cL pLen (Jb (cVar 0) cNil)) (cVar 1))))
def Yb:List D→FR:=JR 2 [false,false] JaH
theorem ok_is_row_of {f:Addr} {fd:FuncData} (F:Fun K "is_row_of" "is_row_of" Yi f fd) (z_tuple:mg "tuple" = none) (z_isinstance:mg "isinstance" = none) (z_len:mg "len" = none):FnOk P w K mg base (L2.CX P w) 1 f fd ["thing", "many"] (spF K mg [false,false] Yb):=by
 refine' fn_ok (M:=_) (Vs:=_) F sc_is_row_of rfl ?hv fun cdv A outer s H E hr=>?hb
 case hb =>
  have hr:Room 0 (cxOf (L2.CX P w) P w K mg base ["thing", "many"] "is_row_of" (defScope Yi) f cdv A outer s H E).A:=hr
  have hN:(cxOf (L2.CX P w) P w K mg base ["thing", "many"] "is_row_of" (defScope Yi) f cdv A outer s H E).N.Nodup:=sc_is_row_of.nd
  have tk:Takes (cxOf (L2.CX P w) P w K mg base ["thing", "many"] "is_row_of" (defScope Yi) f cdv A outer s H E) (fun cls d _ H=>E cls d H):=takes_of rfl rfl rfl rfl
  have hp:=passes_of (X:=cxOf (L2.CX P w) P w K mg base ["thing", "many"] "is_row_of" (defScope Yi) f cdv A outer s H E) rfl
  refine'(Jr (JH (QG (SO.sb (Jp Zf (by rfl) z_isinstance (by rfl) (Jg (Ja 0) (Jg (SO.sb (ZA (by rfl) z_tuple (by rfl))) Js)))) (Jaz (Zi (UW hr) (SO.sb (Jp YX (by rfl) z_len (by rfl) (Jg (Ja 0) Js))) (Ja 1))))))
 case hv=>decide
abbrev YC:Stmt:=top 3
theorem sc_is_whole:FnScope ["thing"] ["thing"] (defScope YC):=⟨rfl,rfl,rfl,by decide +kernel,rfl,by decide +kernel,by decide +kernel⟩
def JbB:CS:=(sRet (cAnd (cL pIsi (Jb (cVar 0) (Jb (cK (.ty "int")) cNil))) (cNot (cL pIsi (Jb (cVar 0) (Jb (cK (.ty "bool")) cNil))))))
def Yy:List D→FR:=JR 1 [false] JbB
theorem ok_is_whole {f:Addr} {fd:FuncData} (F:Fun K "is_whole" "is_whole" YC f fd) (z_int:mg "int" = none) (z_isinstance:mg "isinstance" = none) (z_bool:mg "bool" = none):FnOk P w K mg base (L2.CX P w) 1 f fd ["thing"] (spF K mg [false] Yy):=by
 refine' fn_ok (M:=_) (Vs:=_) F sc_is_whole rfl ?hv fun cdv A outer s H E hr=>?hb
 case hb =>
  have hr:Room 0 (cxOf (L2.CX P w) P w K mg base ["thing"] "is_whole" (defScope YC) f cdv A outer s H E).A:=hr
  have hN:(cxOf (L2.CX P w) P w K mg base ["thing"] "is_whole" (defScope YC) f cdv A outer s H E).N.Nodup:=sc_is_whole.nd
  have tk:Takes (cxOf (L2.CX P w) P w K mg base ["thing"] "is_whole" (defScope YC) f cdv A outer s H E) (fun cls d _ H=>E cls d H):=takes_of rfl rfl rfl rfl
  have hp:=passes_of (X:=cxOf (L2.CX P w) P w K mg base ["thing"] "is_whole" (defScope YC) f cdv A outer s H E) rfl
  refine'(Jr (JH (QG (SO.sb (Jp Zf (by rfl) z_isinstance (by rfl) (Jg (Ja 0) (Jg (SO.sb (ZA (by rfl) z_int (by rfl))) Js)))) (Jaz (Jem (SO.sb (Jp Zf (by rfl) z_isinstance (by rfl) (Jg (Ja 0) (Jg (SO.sb (ZA (by rfl) z_bool (by rfl))) Js)))))))))
 case hv=>decide
abbrev YB:Stmt:=top 7
theorem sc_is_named:FnScope ["names", "thing"] ["names", "thing"] (defScope YB):=⟨rfl,rfl,rfl,by decide +kernel,rfl,by decide +kernel,by decide +kernel⟩
def Jbx:CS:=(sRet (cAnd (cL pIsi (Jb (cVar 1) (Jb (cK (.ty "str")) cNil))) (c2 pInW (cVar 1) (cVar 0))))
def Yx:List D→FR:=JR 2 [false,false] Jbx
theorem ok_is_named {f:Addr} {fd:FuncData} (F:Fun K "is_named" "is_named" YB f fd) (z_str:mg "str" = none) (z_isinstance:mg "isinstance" = none):FnOk P w K mg base (L2.CX P w) 1 f fd ["names", "thing"] (spF K mg [false,false] Yx):=by
 refine' fn_ok (M:=_) (Vs:=_) F sc_is_named rfl ?hv fun cdv A outer s H E hr=>?hb
 case hb =>
  have hr:Room 0 (cxOf (L2.CX P w) P w K mg base ["names", "thing"] "is_named" (defScope YB) f cdv A outer s H E).A:=hr
  have hN:(cxOf (L2.CX P w) P w K mg base ["names", "thing"] "is_named" (defScope YB) f cdv A outer s H E).N.Nodup:=sc_is_named.nd
  have tk:Takes (cxOf (L2.CX P w) P w K mg base ["names", "thing"] "is_named" (defScope YB) f cdv A outer s H E) (fun cls d _ H=>E cls d H):=takes_of rfl rfl rfl rfl
  have hp:=passes_of (X:=cxOf (L2.CX P w) P w K mg base ["names", "thing"] "is_named" (defScope YB) f cdv A outer s H E) rfl
  refine'(Jr (JH (QG (SO.sb (Jp Zf (by rfl) z_isinstance (by rfl) (Jg (Ja 1) (Jg (SO.sb (ZA (by rfl) z_str (by rfl))) Js)))) (Jaz (Zi (Jba hr) (Ja 1) (Ja 0))))))
 case hv=>decide
abbrev Yc:Stmt:=top 6
theorem sc_are_unlike:FnScope ["some"] ["some"] (defScope Yc):=⟨rfl,rfl,rfl,by decide +kernel,rfl,by decide +kernel,by decide +kernel⟩
def QU:CS:=(sRet (c2 pEq (JaZ (cVar 0)) (cL pLen (Jb (cVar 0) cNil))))
def Uu:List D→FR:=JR 1 [false] QU
theorem ok_are_unlike {f:Addr} {fd:FuncData} (F:Fun K "are_unlike" "are_unlike" Yc f fd) (z_len:mg "len" = none) (z_set:mg "set" = none):FnOk P w K mg base (L2.CX P w) 1 f fd ["some"] (spF K mg [false] Uu):=by
 refine' fn_ok (M:=_) (Vs:=_) F sc_are_unlike rfl ?hv fun cdv A outer s H E hr=>?hb
 case hb =>
  have hr:Room 0 (cxOf (L2.CX P w) P w K mg base ["some"] "are_unlike" (defScope Yc) f cdv A outer s H E).A:=hr
  have hN:(cxOf (L2.CX P w) P w K mg base ["some"] "are_unlike" (defScope Yc) f cdv A outer s H E).N.Nodup:=sc_are_unlike.nd
  have tk:Takes (cxOf (L2.CX P w) P w K mg base ["some"] "are_unlike" (defScope Yc) f cdv A outer s H E) (fun cls d _ H=>E cls d H):=takes_of rfl rfl rfl rfl
  have hp:=passes_of (X:=cxOf (L2.CX P w) P w K mg base ["some"] "are_unlike" (defScope Yc) f cdv A outer s H E) rfl
  refine'(Jr (JH (Zi (UW hr) (SO.sb (so_lenSet rfl (by rfl) z_len (by rfl) z_set (Ja 0) (by rfl))) (SO.sb (Jp YX (by rfl) z_len (by rfl) (Jg (Ja 0) Js))))))
 case hv=>decide
abbrev JM:Stmt:=top 8
theorem sc_are_some_of:FnScope ["names", "thing", "name"] ["names", "thing"] (defScope JM):=⟨rfl,rfl,rfl,by decide +kernel,rfl,by decide +kernel,by decide +kernel⟩
def UM:CS:=(sSeq (sIf (tcOr (UE (cTt (Jo Yn (aRo (cVar 1) aNil)))) (UE (cTt (cL pAll (Jb (cLc (JI (cVar 1)) [2] (gSet 2) cYes (Jo Yx (aRo (cVar 0) (aRo (cVar 2) aNil)))) cNil))))) (sRet (cK (.bl false))) sNil) (sRet (Jo Uu (aRo (cVar 1) aNil))))
def JU:List D→FR:=JR 3 [false,false] UM
theorem ok_are_some_of {f:Addr} {fd:FuncData} (F:Fun K "are_some_of" "are_some_of" JM f fd) (z_all:mg "all" = none) (d_is_list:Fd P w K mg base 1 "is_list" ["thing"] [false] Yn) (d_is_named:Fd P w K mg base 1 "is_named" ["names", "thing"] [false,false] Yx) (d_are_unlike:Fd P w K mg base 1 "are_unlike" ["some"] [false] Uu):FnOk P w K mg base (L2.CX P w) 2 f fd ["names", "thing"] (spF K mg [false,false] JU):=by
 refine' fn_ok (M:=_) (Vs:=_) F sc_are_some_of rfl ?hv fun cdv A outer s H E hr=>?hb
 case hb =>
  have hr:Room 1 (cxOf (L2.CX P w) P w K mg base ["names", "thing", "name"] "are_some_of" (defScope JM) f cdv A outer s H E).A:=hr
  have hN:(cxOf (L2.CX P w) P w K mg base ["names", "thing", "name"] "are_some_of" (defScope JM) f cdv A outer s H E).N.Nodup:=sc_are_some_of.nd
  have tk:Takes (cxOf (L2.CX P w) P w K mg base ["names", "thing", "name"] "are_some_of" (defScope JM) f cdv A outer s H E) (fun cls d _ H=>E cls d H):=takes_of rfl rfl rfl rfl
  have hp:=passes_of (X:=cxOf (L2.CX P w) P w K mg base ["names", "thing", "name"] "are_some_of" (defScope JM) f cdv A outer s H E) rfl
  have D_is_list:=(d_is_list).mono (k:=1) (by omega)
  have D_is_named:=(d_is_named).mono (k:=1) (by omega)
  have D_are_unlike:=(d_are_unlike).mono (k:=1) (by omega)
  refine'(Jf (Up (SW.st (Jbn (Zm (Zo (SO.sb (Jm D_is_list hr tk (Ji (Ja 1) Jl))))) (Jbb (Zm (Zo (SO.sb (Jp (Jbu rfl) (by rfl) z_all (by rfl) (Jg (SO.sb (ZW (own:=[("name", 2)]) [2] rfl hN (YR (Ja 1)) (blkOk_by (N:=["names", "thing", "name"]) (sc:=defScope JM) (own:=[("name", 2)]) (by decide +kernel)) (fun _ _ _ _ _=>(Jv 2 hN)) (fun _ _ _ _ _=>UK) (fun _ _ _ _ _=>(Jm D_is_named hr takes0 (Ji (Ja 0) (Ji (Ja 2) Jl)))) rfl (by decide) (by decide) (by intro _;rfl))) Js)))))))) (Jr (JH ZX)) Ys) (Jr (JH (Jm D_are_unlike hr tk (Ji (Ja 1) Jl)))))
 case hv=>decide
abbrev YV:Stmt:=top 1
theorem sc_counted:FnScope ["turn", "n"] ["turn", "n"] (defScope YV):=⟨rfl,rfl,rfl,by decide +kernel,rfl,by decide +kernel,by decide +kernel⟩
def Jb4:CS:=(sSeq (sIf (cTt (c2 pEq (cVar 0) (cK (.int 0)))) (sRet (cGet 1)) sNil) (sRet (c2 pMod (cVar 1) (cVar 0))))
def Uh:List D→FR:=JR 2 [false,false] Jb4
theorem ok_counted {f:Addr} {fd:FuncData} (F:Fun K "counted" "counted" YV f fd)  : FnOk P w K mg base (L2.CX P w) 1 f fd ["turn", "n"] (spF K mg [false,false] Uh):=by
 refine' fn_ok (M:=_) (Vs:=_) F sc_counted rfl ?hv fun cdv A outer s H E hr=>?hb
 case hb =>
  have hr:Room 0 (cxOf (L2.CX P w) P w K mg base ["turn", "n"] "counted" (defScope YV) f cdv A outer s H E).A:=hr
  have hN:(cxOf (L2.CX P w) P w K mg base ["turn", "n"] "counted" (defScope YV) f cdv A outer s H E).N.Nodup:=sc_counted.nd
  have tk:Takes (cxOf (L2.CX P w) P w K mg base ["turn", "n"] "counted" (defScope YV) f cdv A outer s H E) (fun cls d _ H=>E cls d H):=takes_of rfl rfl rfl rfl
  have hp:=passes_of (X:=cxOf (L2.CX P w) P w K mg base ["turn", "n"] "counted" (defScope YV) f cdv A outer s H E) rfl
  refine'(Jf (Up (JG (UW hr) (Ja 0) (SO.sb Jd)) (Jr (JH (Ye 1))) Ys) (Jr (JH (Jk ZL (Ja 1) (Ja 0)))))
 case hv=>decide
abbrev Jz:Stmt:=top 9
theorem sc_shows_numbers:FnScope ["names", "joinings", "turn", "rows", "row", "numbers", "one", "other", "step"] ["names", "joinings", "turn", "rows"] (defScope Jz):=⟨rfl,rfl,rfl,by decide +kernel,rfl,by decide +kernel,by decide +kernel⟩
def YS:CS:=(sSeq (sIf (tcOr (UE (cTt (Jo Yn (aRo (YY (cVar 3)) aNil)))) (UE (cTt (cL pAll (Jb (cLc (JI (YY (cVar 3))) [4] (gSet 4) cYes (cAnd (Jo Yb (aRo (cVar 4) (aRo (cK (.int 2)) aNil))) (Jo Yy (aRo (cIdx (cVar 4) (cK (.int 1))) aNil)))) cNil))))) (sRet (cK (.bl false))) sNil) (sSeq (sIf (tcOr (UE (cTt (Jo JU (aRo (cVar 0) (aRo (cLc (JI (YY (cVar 3))) [4] (gSet 4) cYes (cImm (cIdx (cVar 4) (cK (.int 0))))) aNil))))) (cTt (c2 pNe (cL pLen (Jb (YY (cVar 3)) cNil)) (cL pLen (Jb (cVar 0) cNil))))) (sRet (cK (.bl false))) sNil) (sSeq (sAsg (cL Jaq (Jb (cVar 3) cNil)) (gSet 5)) (sRet (cL pAll (Jb (cLc (JI (cVar 1)) [6,7,8] (UF 3 (JA (gSet 6) (JA (gSet 7) (JA (gSet 8) UO)))) cYes (c2 pEq (Jo Uh (aRo (cVar 2) (aRo (c2 pSub (c2 pSub (cIdx (cVar 5) (cVar 7)) (cIdx (cVar 5) (cVar 6))) (cVar 8)) aNil))) (cK (.int 0)))) cNil))))))
def YK:List D→FR:=JR 9 [false,false,false,false] YS
theorem ok_shows_numbers {f:Addr} {fd:FuncData} (F:Fun K "shows_numbers" "shows_numbers" Jz f fd) (z_all:mg "all" = none) (z_len:mg "len" = none) (z_dict:mg "dict" = none) (d_is_list:Fd P w K mg base 1 "is_list" ["thing"] [false] Yn) (d_is_row_of:Fd P w K mg base 1 "is_row_of" ["thing", "many"] [false,false] Yb) (d_is_whole:Fd P w K mg base 1 "is_whole" ["thing"] [false] Yy) (d_are_some_of:Fd P w K mg base 2 "are_some_of" ["names", "thing"] [false,false] JU) (d_counted:Fd P w K mg base 1 "counted" ["turn", "n"] [false,false] Uh):FnOk P w K mg base (L2.CX P w) 3 f fd ["names", "joinings", "turn", "rows"] (spF K mg [false,false,false,false] YK):=by
 refine' fn_ok (M:=_) (Vs:=_) F sc_shows_numbers rfl ?hv fun cdv A outer s H E hr=>?hb
 case hb =>
  have hr:Room 2 (cxOf (L2.CX P w) P w K mg base ["names", "joinings", "turn", "rows", "row", "numbers", "one", "other", "step"] "shows_numbers" (defScope Jz) f cdv A outer s H E).A:=hr
  have hN:(cxOf (L2.CX P w) P w K mg base ["names", "joinings", "turn", "rows", "row", "numbers", "one", "other", "step"] "shows_numbers" (defScope Jz) f cdv A outer s H E).N.Nodup:=sc_shows_numbers.nd
  have tk:Takes (cxOf (L2.CX P w) P w K mg base ["names", "joinings", "turn", "rows", "row", "numbers", "one", "other", "step"] "shows_numbers" (defScope Jz) f cdv A outer s H E) (fun cls d _ H=>E cls d H):=takes_of rfl rfl rfl rfl
  have hp:=passes_of (X:=cxOf (L2.CX P w) P w K mg base ["names", "joinings", "turn", "rows", "row", "numbers", "one", "other", "step"] "shows_numbers" (defScope Jz) f cdv A outer s H E) rfl
  have D_is_list:=(d_is_list).mono (k:=2) (by omega)
  have D_is_row_of:=(d_is_row_of).mono (k:=2) (by omega)
  have D_is_whole:=(d_is_whole).mono (k:=2) (by omega)
  have D_are_some_of:=(d_are_some_of).mono (k:=2) (by omega)
  have D_counted:=(d_counted).mono (k:=2) (by omega)
  refine'(Jf (Up (SW.st (Jbn (Zm (Zo (SO.sb (Jm D_is_list hr tk (Ji (ZO (Ja 3)) Jl))))) (Jbb (Zm (Zo (SO.sb (Jp (Jbu rfl) (by rfl) z_all (by rfl) (Jg (SO.sb (ZW (own:=[("row", 4)]) [4] rfl hN (YR (ZO (Ja 3))) (blkOk_by (N:=["names", "joinings", "turn", "rows", "row", "numbers", "one", "other", "step"]) (sc:=defScope Jz) (own:=[("row", 4)]) (by decide +kernel)) (fun _ _ _ _ _=>(Jv 4 hN)) (fun _ _ _ _ _=>UK) (fun _ _ _ _ _=>(QG (SO.sb (Jm D_is_row_of hr takes0 (Ji (Ja 4) (Ji (SO.sb Jd) Jl)))) (Jaz (Jm D_is_whole hr takes0 (Ji (JC hr (Ja 4) (SO.sb Jd)) Jl))))) rfl (by decide) (by decide) (by intro _;rfl))) Js)))))))) (Jr (JH ZX)) Ys) (Jf (Up (SW.st (Jbn (Zm (Zo (SO.sb (Jm D_are_some_of hr tk (Ji (Ja 0) (Ji (SO.sb (ZW (own:=[("row", 4)]) [4] rfl hN (YR (ZO (Ja 3))) (blkOk_by (N:=["names", "joinings", "turn", "rows", "row", "numbers", "one", "other", "step"]) (sc:=defScope Jz) (own:=[("row", 4)]) (by decide +kernel)) (fun _ _ _ _ _=>(Jv 4 hN)) (fun _ _ _ _ _=>UK) (fun _ _ _ _ _=>(SB.imm (JC hr (Ja 4) (SO.sb Jd)))) rfl (by decide) (by decide) (by intro _;rfl))) Jl)))))) (Jbb (JG (QB hr) (SO.sb (Jp YX (by rfl) z_len (by rfl) (Jg (ZO (Ja 3)) Js))) (SO.sb (Jp YX (by rfl) z_len (by rfl) (Jg (Ja 0) Js))))))) (Jr (JH ZX)) Ys) (Jf (Ju hN (Ux (od_dictF rfl) (by rfl) z_dict (by rfl) (Jg (Ja 3) Js))) (Jr (JH (Jp (Jbu rfl) (by rfl) z_all (by rfl) (Jg (SO.sb (ZW (own:=[("one", 6),("other", 7),("step", 8)]) [6,7,8] rfl hN (YR (Ja 1)) (blkOk_by (N:=["names", "joinings", "turn", "rows", "row", "numbers", "one", "other", "step"]) (sc:=defScope Jz) (own:=[("one", 6),("other", 7),("step", 8)]) (by decide +kernel)) (fun _ _ _ _ _=>(Qe rfl (JS (Jv 6 hN) (JS (Jv 7 hN) (JS (Jv 8 hN) Zk))))) (fun _ _ _ _ _=>UK) (fun _ _ _ _ _=>(Zi (UW hr) (SO.sb (Jm D_counted hr takes0 (Ji (Ja 2) (Ji (SO.sb (Jk ZF (SO.sb (Jk ZF (JC hr (Ja 5) (Ja 7)) (JC hr (Ja 5) (Ja 6)))) (Ja 8))) Jl)))) (SO.sb Jd))) rfl (by decide) (by decide) (by intro _;rfl))) Js)))))))
 case hv=>decide
abbrev JT:Stmt:=top 22
theorem sc__law_is_int:FnScope ["_law_thing"] ["_law_thing"] (defScope JT):=⟨rfl,rfl,rfl,by decide +kernel,rfl,by decide +kernel,by decide +kernel⟩
def Qx:CS:=(sRet (cAnd (cL pIsi (Jb (cVar 0) (Jb (cK (.ty "int")) cNil))) (cNot (cL pIsi (Jb (cVar 0) (Jb (cK (.ty "bool")) cNil))))))
def YL:List D→FR:=JR 1 [false] Qx
theorem ok__law_is_int {f:Addr} {fd:FuncData} (F:Fun K "_law_is_int" "_law_is_int" JT f fd) (z_int:mg "int" = none) (z_isinstance:mg "isinstance" = none) (z_bool:mg "bool" = none):FnOk P w K mg base (L2.CX P w) 1 f fd ["_law_thing"] (spF K mg [false] YL):=by
 refine' fn_ok (M:=_) (Vs:=_) F sc__law_is_int rfl ?hv fun cdv A outer s H E hr=>?hb
 case hb =>
  have hr:Room 0 (cxOf (L2.CX P w) P w K mg base ["_law_thing"] "_law_is_int" (defScope JT) f cdv A outer s H E).A:=hr
  have hN:(cxOf (L2.CX P w) P w K mg base ["_law_thing"] "_law_is_int" (defScope JT) f cdv A outer s H E).N.Nodup:=sc__law_is_int.nd
  have tk:Takes (cxOf (L2.CX P w) P w K mg base ["_law_thing"] "_law_is_int" (defScope JT) f cdv A outer s H E) (fun cls d _ H=>E cls d H):=takes_of rfl rfl rfl rfl
  have hp:=passes_of (X:=cxOf (L2.CX P w) P w K mg base ["_law_thing"] "_law_is_int" (defScope JT) f cdv A outer s H E) rfl
  refine'(Jr (JH (QG (SO.sb (Jp Zf (by rfl) z_isinstance (by rfl) (Jg (Ja 0) (Jg (SO.sb (ZA (by rfl) z_int (by rfl))) Js)))) (Jaz (Jem (SO.sb (Jp Zf (by rfl) z_isinstance (by rfl) (Jg (Ja 0) (Jg (SO.sb (ZA (by rfl) z_bool (by rfl))) Js)))))))))
 case hv=>decide
abbrev JN:Stmt:=top 17
theorem sc__law_counted:FnScope ["_law_turn_here", "_law_n"] ["_law_turn_here", "_law_n"] (defScope JN):=⟨rfl,rfl,rfl,by decide +kernel,rfl,by decide +kernel,by decide +kernel⟩
def Qa:CS:=(sSeq (sIf (cTt (c2 pEq (cVar 0) (cK (.int 0)))) (sRet (cGet 1)) sNil) (sRet (c2 pSub (cVar 1) (c2 Zd (c2 pDiv (cVar 1) (cVar 0)) (cVar 0)))))
def JX:List D→FR:=JR 2 [false,false] Qa
theorem ok__law_counted {f:Addr} {fd:FuncData} (F:Fun K "_law_counted" "_law_counted" JN f fd)  : FnOk P w K mg base (L2.CX P w) 1 f fd ["_law_turn_here", "_law_n"] (spF K mg [false,false] JX):=by
 refine' fn_ok (M:=_) (Vs:=_) F sc__law_counted rfl ?hv fun cdv A outer s H E hr=>?hb
 case hb =>
  have hr:Room 0 (cxOf (L2.CX P w) P w K mg base ["_law_turn_here", "_law_n"] "_law_counted" (defScope JN) f cdv A outer s H E).A:=hr
  have hN:(cxOf (L2.CX P w) P w K mg base ["_law_turn_here", "_law_n"] "_law_counted" (defScope JN) f cdv A outer s H E).N.Nodup:=sc__law_counted.nd
  have tk:Takes (cxOf (L2.CX P w) P w K mg base ["_law_turn_here", "_law_n"] "_law_counted" (defScope JN) f cdv A outer s H E) (fun cls d _ H=>E cls d H):=takes_of rfl rfl rfl rfl
  have hp:=passes_of (X:=cxOf (L2.CX P w) P w K mg base ["_law_turn_here", "_law_n"] "_law_counted" (defScope JN) f cdv A outer s H E) rfl
  refine'(Jf (Up (JG (UW hr) (Ja 0) (SO.sb Jd)) (Jr (JH (Ye 1))) Ys) (Jr (JH (Jk ZF (Ja 1) (SO.sb (Jk Uv (SO.sb (Jk Jdb (Ja 1) (Ja 0))) (Ja 0)))))))
 case hv=>decide
abbrev Yo:Stmt:=top 23
theorem sc__law_due:FnScope ["_law_names_here", "_law_joinings_here", "_law_turn_here", "_law_rows_here", "_law_numbers_here", "_law_row", "_law_one", "_law_other", "_law_step"] ["_law_names_here", "_law_joinings_here", "_law_turn_here", "_law_rows_here"] (defScope Yo):=⟨rfl,rfl,rfl,by decide +kernel,rfl,by decide +kernel,by decide +kernel⟩
def Um:CS:=(sSeq (sIf (tcOr (UE (cTt (cL pIsi (Jb (cVar 5) (Jb (cK (.ty "tuple")) cNil))))) (tcOr (cTt (c2 pNe (cL pLen (Jb (cVar 5) cNil)) (cK (.int 2)))) (tcOr (UE (cTt (cL pIsi (Jb (cIdx (cVar 5) (cK (.int 0))) (Jb (cK (.ty "str")) cNil))))) (UE (cTt (Jo YL (aRo (cIdx (cVar 5) (cK (.int 1))) aNil))))))) (sRet (cK (.bl false))) sNil) (sAsg (cImm (cIdx (cVar 5) (cK (.int 1)))) (Ql 4 (lVar 4) (cIdx (cVar 5) (cK (.int 0))))))
def Zh:CS:=(sSeq (sIf (UE (cTt (cL pIsi (Jb (cVar 3) (Jb (cTup (Jb (cK (.ty "list")) (Jb (cK (.ty "tuple")) cNil))) cNil))))) (sRet (cK (.bl false))) sNil) (sSeq (sAsg (cK (.dct .m [] [])) (gSet 4)) (sSeq (sFor (JI (cVar 3)) (gSet 5) Um) (sSeq (sIf (tcOr (cTt (c2 pNe (cL JV (Jb (cVar 4) cNil)) (cL JV (Jb (cVar 0) cNil)))) (cTt (c2 pNe (cL pLen (Jb (cVar 3) cNil)) (cL pLen (Jb (cVar 0) cNil))))) (sRet (cK (.bl false))) sNil) (sRet (cL pAll (Jb (cLc (JI (cVar 1)) [6,7,8] (UF 3 (JA (gSet 6) (JA (gSet 7) (JA (gSet 8) UO)))) cYes (c2 pEq (Jo JX (aRo (cVar 2) (aRo (c2 pSub (c2 pAdd (cIdx (cVar 4) (cVar 6)) (cVar 8)) (cIdx (cVar 4) (cVar 7))) aNil))) (cK (.int 0)))) cNil)))))))
def UN:List D→FR:=JR 9 [false,false,false,false] Zh
theorem ok__law_due {f:Addr} {fd:FuncData} (F:Fun K "_law_due" "_law_due" Yo f fd) (z_list:mg "list" = none) (z_tuple:mg "tuple" = none) (z_isinstance:mg "isinstance" = none) (z_len:mg "len" = none) (z_str:mg "str" = none) (z_sorted:mg "sorted" = none) (z_all:mg "all" = none) (d__law_is_int:Fd P w K mg base 1 "_law_is_int" ["_law_thing"] [false] YL) (d__law_counted:Fd P w K mg base 1 "_law_counted" ["_law_turn_here", "_law_n"] [false,false] JX):FnOk P w K mg base (L2.CX P w) 2 f fd ["_law_names_here", "_law_joinings_here", "_law_turn_here", "_law_rows_here"] (spF K mg [false,false,false,false] UN):=by
 refine' fn_ok (M:=_) (Vs:=_) F sc__law_due rfl ?hv fun cdv A outer s H E hr=>?hb
 case hb =>
  have hr:Room 1 (cxOf (L2.CX P w) P w K mg base ["_law_names_here", "_law_joinings_here", "_law_turn_here", "_law_rows_here", "_law_numbers_here", "_law_row", "_law_one", "_law_other", "_law_step"] "_law_due" (defScope Yo) f cdv A outer s H E).A:=hr
  have hN:(cxOf (L2.CX P w) P w K mg base ["_law_names_here", "_law_joinings_here", "_law_turn_here", "_law_rows_here", "_law_numbers_here", "_law_row", "_law_one", "_law_other", "_law_step"] "_law_due" (defScope Yo) f cdv A outer s H E).N.Nodup:=sc__law_due.nd
  have tk:Takes (cxOf (L2.CX P w) P w K mg base ["_law_names_here", "_law_joinings_here", "_law_turn_here", "_law_rows_here", "_law_numbers_here", "_law_row", "_law_one", "_law_other", "_law_step"] "_law_due" (defScope Yo) f cdv A outer s H E) (fun cls d _ H=>E cls d H):=takes_of rfl rfl rfl rfl
  have hp:=passes_of (X:=cxOf (L2.CX P w) P w K mg base ["_law_names_here", "_law_joinings_here", "_law_turn_here", "_law_rows_here", "_law_numbers_here", "_law_row", "_law_one", "_law_other", "_law_step"] "_law_due" (defScope Yo) f cdv A outer s H E) rfl
  have D__law_is_int:=(d__law_is_int).mono (k:=1) (by omega)
  have D__law_counted:=(d__law_counted).mono (k:=1) (by omega)
  refine'(Jf (Up (Zm (Zo (SO.sb (Jp Zf (by rfl) z_isinstance (by rfl) (Jg (Ja 3) (Jg (SO.sb (YA (Jc (ZA (by rfl) z_list (by rfl)) (Jc (ZA (by rfl) z_tuple (by rfl)) Jj)))) Js)))))) (Jr (JH ZX)) Ys) (Jf (Ju hN Jc1) (Jf (Zn hp rfl (YR (Ja 3)) (Jv 5 hN) (Jf (Up (SW.st (Jbn (Zm (Zo (SO.sb (Jp Zf (by rfl) z_isinstance (by rfl) (Jg (Ja 5) (Jg (SO.sb (ZA (by rfl) z_tuple (by rfl))) Js)))))) (Jbn (JG (QB hr) (SO.sb (Jp YX (by rfl) z_len (by rfl) (Jg (Ja 5) Js))) (SO.sb Jd)) (Jbn (Zm (Zo (SO.sb (Jp Zf (by rfl) z_isinstance (by rfl) (Jg (JC hr (Ja 5) (SO.sb Jd)) (Jg (SO.sb (ZA (by rfl) z_str (by rfl))) Js)))))) (Jbb (Zm (Zo (SO.sb (Jm D__law_is_int hr tk (Ji (JC hr (Ja 5) (SO.sb Jd)) Jl)))))))))) (Jr (JH ZX)) Ys) (Jr (Zp (SB.imm (JC hr (Ja 5) (SO.sb Jd))) (Jax hr (W1:=fun cls d _ H=>E cls d H) (W2:=fun cls d _ H=>E cls d H) (ZG 4) (JC hr (Ja 5) (SO.sb Jd))))))) (Jf (Up (SW.st (Jbn (JG (QB hr) (SO.sb (Jp (QH hr rfl) (by rfl) z_sorted (by rfl) (Jg (Ja 4) Js))) (SO.sb (Jp (QH hr rfl) (by rfl) z_sorted (by rfl) (Jg (Ja 0) Js)))) (Jbb (JG (QB hr) (SO.sb (Jp YX (by rfl) z_len (by rfl) (Jg (Ja 3) Js))) (SO.sb (Jp YX (by rfl) z_len (by rfl) (Jg (Ja 0) Js))))))) (Jr (JH ZX)) Ys) (Jr (JH (Jp (Jbu rfl) (by rfl) z_all (by rfl) (Jg (SO.sb (ZW (own:=[("_law_one", 6),("_law_other", 7),("_law_step", 8)]) [6,7,8] rfl hN (YR (Ja 1)) (blkOk_by (N:=["_law_names_here", "_law_joinings_here", "_law_turn_here", "_law_rows_here", "_law_numbers_here", "_law_row", "_law_one", "_law_other", "_law_step"]) (sc:=defScope Yo) (own:=[("_law_one", 6),("_law_other", 7),("_law_step", 8)]) (by decide +kernel)) (fun _ _ _ _ _=>(Qe rfl (JS (Jv 6 hN) (JS (Jv 7 hN) (JS (Jv 8 hN) Zk))))) (fun _ _ _ _ _=>UK) (fun _ _ _ _ _=>(Zi (UW hr) (SO.sb (Jm D__law_counted hr takes0 (Ji (Ja 2) (Ji (SO.sb (Jk ZF (SO.sb (Jk JQ (JC hr (Ja 4) (Ja 6)) (Ja 8))) (JC hr (Ja 4) (Ja 7)))) Jl)))) (SO.sb Jd))) rfl (by decide) (by decide) (by intro _;rfl))) Js))))))))
 case hv=>decide
abbrev Yd:Stmt:=top 25
theorem sc__law_says:FnScope ["_law_names_here", "_law_joinings_here", "_law_turn_here", "_law_rows_here", "_law_kept", "_law_found"] ["_law_names_here", "_law_joinings_here", "_law_turn_here", "_law_rows_here"] (defScope Yd):=⟨rfl,rfl,rfl,by decide +kernel,rfl,by decide +kernel,by decide +kernel⟩
def JaF:CS:=(sSeq (sAsg (cL Jcy (Jb (YY (cVar 3)) cNil)) (gSet 4)) (sSeq (sAsg (Jo YK (aRo (cVar 0) (aRo (cVar 1) (aRo (cVar 2) (aRo (cVar 3) aNil))))) (gSet 5)) (sRet (cAnd (cL pIsi (Jb (cVar 5) (Jb (cK (.ty "bool")) cNil))) (cAnd (c2 pEq (cVar 5) (Jo UN (aRo (cVar 0) (aRo (cVar 1) (aRo (cVar 2) (aRo (YY (cVar 3)) aNil)))))) (c2 pEq (cL Jcy (Jb (YY (cVar 3)) cNil)) (cVar 4)))))))
def YO:List D→FR:=JR 6 [false,false,false,false] JaF
theorem ok__law_says {f:Addr} {fd:FuncData} (F:Fun K "_law_says" "_law_says" Yd f fd) (z_str:mg "str" = none) (z_bool:mg "bool" = none) (z_isinstance:mg "isinstance" = none) (d_shows_numbers:Fd P w K mg base 3 "shows_numbers" ["names", "joinings", "turn", "rows"] [false,false,false,false] YK) (d__law_due:Fd P w K mg base 2 "_law_due" ["_law_names_here", "_law_joinings_here", "_law_turn_here", "_law_rows_here"] [false,false,false,false] UN):FnG P w K mg base 4 f fd ["_law_names_here", "_law_joinings_here", "_law_turn_here", "_law_rows_here"] (spF K mg [false,false,false,false] YO):=by
 refine' Jeb (M:=_) (Vs:=_) F sc__law_says rfl ?hv fun cdv A outer s H E hr hG=>?hb
 case hb =>
  have hr:Room 3 (cxOf (L2.CX P w) P w K mg base ["_law_names_here", "_law_joinings_here", "_law_turn_here", "_law_rows_here", "_law_kept", "_law_found"] "_law_says" (defScope Yd) f cdv A outer s H E).A:=hr
  have hG:(cxOf (L2.CX P w) P w K mg base ["_law_names_here", "_law_joinings_here", "_law_turn_here", "_law_rows_here", "_law_kept", "_law_found"] "_law_says" (defScope Yd) f cdv A outer s H E).A.guards=some []:=hG
  have hN:(cxOf (L2.CX P w) P w K mg base ["_law_names_here", "_law_joinings_here", "_law_turn_here", "_law_rows_here", "_law_kept", "_law_found"] "_law_says" (defScope Yd) f cdv A outer s H E).N.Nodup:=sc__law_says.nd
  have tk:Takes (cxOf (L2.CX P w) P w K mg base ["_law_names_here", "_law_joinings_here", "_law_turn_here", "_law_rows_here", "_law_kept", "_law_found"] "_law_says" (defScope Yd) f cdv A outer s H E) (fun cls d _ H=>E cls d H):=takes_of rfl rfl rfl rfl
  have hp:=passes_of (X:=cxOf (L2.CX P w) P w K mg base ["_law_names_here", "_law_joinings_here", "_law_turn_here", "_law_rows_here", "_law_kept", "_law_found"] "_law_says" (defScope Yd) f cdv A outer s H E) rfl
  have D_shows_numbers:=(d_shows_numbers).mono (k:=3) (by omega)
  have D__law_due:=(d__law_due).mono (k:=3) (by omega)
  refine'(Jf (Ju hN (Ux (JdJ hr hG) (by rfl) z_str (by rfl) (Jg (ZO (Ja 3)) Js))) (Jf (Ju hN (Jm D_shows_numbers hr tk (Ji (Ja 0) (Ji (Ja 1) (Ji (Ja 2) (Ji (Ja 3) Jl)))))) (Jr (JH (QG (SO.sb (Jp Zf (by rfl) z_isinstance (by rfl) (Jg (Ja 5) (Jg (SO.sb (ZA (by rfl) z_bool (by rfl))) Js)))) (QG (SO.sb (Zi (UW hr) (Ja 5) (SO.sb (Jm D__law_due hr tk (Ji (Ja 0) (Ji (Ja 1) (Ji (Ja 2) (Ji (ZO (Ja 3)) Jl)))))))) (Jaz (Zi (UW hr) (SO.sb (Ux (JdJ hr hG) (by rfl) z_str (by rfl) (Jg (ZO (Ja 3)) Js))) (Ja 4)))))))))
 case hv=>decide
abbrev Ze:Stmt:=top 26
theorem sc_law:FnScope ["_law_script", "_law_k", "_law_tape_here", "_law_names_here", "_law_turn_here", "_law_joinings_here", "_law_rows_here", "_law_papers", "_law_again", "_law_thing", "_law_name", "_law_number", "_law_paper"] ["_law_script"] (defScope Ze):=⟨rfl,rfl,rfl,by decide +kernel,rfl,by decide +kernel,by decide +kernel⟩
def Ja3:CS:=(sSeq (sAsg (Jo Ub (aOw (cMv 2) (some 2) aNil)) (gSet 9)) (sSeq (sIf (ZY (cTt (c2 pNe (cVar 6) (cLst cNil))) (cTt (c2 pEq (Jo Je (aOw (cMv 2) (some 2) (aRo (cK (.int 2)) aNil))) (cK (.int 0))))) (sSeq (sAsg (cImm (cIdx (cVar 6) (Jo Je (aOw (cMv 2) (some 2) (aRo (cL pLen (Jb (cVar 6) cNil)) aNil))))) (UF 2 (JA (gSet 10) (JA (gSet 11) UO)))) (sAsg (cImm (cIdx (cLst (Jb (cTup (Jb (cGet 10) (Jb (c2 pAdd (cVar 11) (cK (.int 1))) cNil))) (Jb (cTup (Jb (cGet 10) (Jb (c1 pNeg (cVar 11)) cNil))) (Jb (cFix (cLst (Jb (cGet 10) (Jb (cGet 11) cNil)))) (Jb (cTup (Jb (cGet 10) (Jb (cGet 11) (Jb (cK (.int 0)) cNil)))) cNil))))) (Jo Je (aOw (cMv 2) (some 2) (aRo (cK (.int 4)) aNil))))) (gSet 9))) sNil) (JbP (cMut 7 kdL Qn (lVar 7) (Jb (cFix (Jo Uo (aOw (cMv 2) (some 2) (aRo (cVar 6) (aOw (cMv 9) (some 9) aNil))))) cNil)))))
def Ja5:CS:=(sSeq (sAsg (Jo Un (aRo (cVar 0) (aRo (cVar 1) aNil))) (gSet 2)) (sSeq (sAsg (cFix (Jo YW (aOw (cMv 2) (some 2) aNil))) (gSet 3)) (sSeq (sAsg (Jo Uk (aOw (cMv 2) (some 2) aNil)) (gSet 4)) (sSeq (sAsg (cFix (Jo Ym (aOw (cMv 2) (some 2) (aRo (cVar 3) (aRo (cVar 4) aNil))))) (gSet 5)) (sSeq (sAsg (cFix (Jo UC (aOw (cMv 2) (some 2) (aRo (cVar 3) (aRo (cVar 5) (aRo (cVar 4) aNil)))))) (gSet 6)) (sSeq (sAsg (cImm (cIdx (cLst (Jb (cTup (Jb (cImm (cVar 3)) (Jb (cImm (cVar 5)) cNil))) (Jb (cTup (Jb (cL Jaj (Jb (cVar 3) cNil)) (Jb (cL Jaj (Jb (cVar 5) cNil)) cNil))) cNil))) (Jo Je (aOw (cMv 2) (some 2) (aRo (cK (.int 2)) aNil))))) (UF 2 (JA (gSet 3) (JA (gSet 5) UO)))) (sSeq (sAsg (cLst (Jb (cImm (cVar 6)) (Jb (cL Ja6 (Jb (cVar 6) cNil)) (Jb (Jo Ub (aOw (cMv 2) (some 2) aNil)) (Jb (cFix (cLst (Jb (Jo Ub (aOw (cMv 2) (some 2) aNil)) cNil))) cNil))))) (gSet 7)) (sSeq (sFor (Zj (Jb (cK (.int 6)) cNil)) (gSet 8) Ja3) (sIf (UE (cTt (cL pAll (Jb (cLc (JI (cVar 7)) [12] (gSet 12) cYes (Jo YO (aRo (cVar 3) (aRo (cVar 5) (aRo (cVar 4) (aRo (cVar 12) aNil)))))) cNil)))) (sRet (cK (.bl false))) sNil)))))))))
def Jd8:CS:=(sSeq (sFor (Zj (Jb (c2 pAdd (cK (.int 1)) (cL JcM (Jb (cK (.int 8)) (Jb (cL pLen (Jb (cVar 0) cNil)) cNil)))) cNil)) (gSet 1) Ja5) (sRet (cK (.bl true))))
def Jea:List D→FR:=JR 13 [false] Jd8
theorem ok_law {f:Addr} {fd:FuncData} (F:Fun K "law" "law" Ze f fd) (z_len:mg "len" = none) (z_min:mg "min" = none) (z_range:mg "range" = none) (z_tuple:mg "tuple" = none) (z_all:mg "all" = none) (d__law_tape:Fd P w K mg base 1 "_law_tape" ["_law_script", "_law_k"] [false,false] Un) (d__law_names:Fd P w K mg base 2 "_law_names" ["_law_tape_here"] [true] YW) (d__law_turn:Fd P w K mg base 2 "_law_turn" ["_law_tape_here"] [true] Uk) (d__law_joinings:Fd P w K mg base 2 "_law_joinings" ["_law_tape_here", "_law_names_here", "_law_turn_here"] [true,false,false] Ym) (d__law_rows:Fd P w K mg base 3 "_law_rows" ["_law_tape_here", "_law_names_here", "_law_joinings_here", "_law_turn_here"] [true,false,false,false] UC) (d__law_draw:Fd P w K mg base 1 "_law_draw" ["_law_tape_here", "_law_many"] [true,false] Je) (d__law_odd:Fd P w K mg base 2 "_law_odd" ["_law_tape_here"] [true] Ub) (d__law_bent:Fd P w K mg base 2 "_law_bent" ["_law_tape_here", "_law_some", "_law_thing"] [true,false,true] Uo) (d__law_says:FdG P w K mg base 4 "_law_says" ["_law_names_here", "_law_joinings_here", "_law_turn_here", "_law_rows_here"] [false,false,false,false] YO):FnG P w K mg base 5 f fd ["_law_script"] (spF K mg [false] Jea):=by
 refine' Jeb (M:=_) (Vs:=_) F sc_law rfl ?hv fun cdv A outer s H E hr hG=>?hb
 case hb =>
  have hr:Room 4 (cxOf (L2.CX P w) P w K mg base ["_law_script", "_law_k", "_law_tape_here", "_law_names_here", "_law_turn_here", "_law_joinings_here", "_law_rows_here", "_law_papers", "_law_again", "_law_thing", "_law_name", "_law_number", "_law_paper"] "law" (defScope Ze) f cdv A outer s H E).A:=hr
  have hG:(cxOf (L2.CX P w) P w K mg base ["_law_script", "_law_k", "_law_tape_here", "_law_names_here", "_law_turn_here", "_law_joinings_here", "_law_rows_here", "_law_papers", "_law_again", "_law_thing", "_law_name", "_law_number", "_law_paper"] "law" (defScope Ze) f cdv A outer s H E).A.guards=some []:=hG
  have hN:(cxOf (L2.CX P w) P w K mg base ["_law_script", "_law_k", "_law_tape_here", "_law_names_here", "_law_turn_here", "_law_joinings_here", "_law_rows_here", "_law_papers", "_law_again", "_law_thing", "_law_name", "_law_number", "_law_paper"] "law" (defScope Ze) f cdv A outer s H E).N.Nodup:=sc_law.nd
  have tk:Takes (cxOf (L2.CX P w) P w K mg base ["_law_script", "_law_k", "_law_tape_here", "_law_names_here", "_law_turn_here", "_law_joinings_here", "_law_rows_here", "_law_papers", "_law_again", "_law_thing", "_law_name", "_law_number", "_law_paper"] "law" (defScope Ze) f cdv A outer s H E) (fun cls d _ H=>E cls d H):=takes_of rfl rfl rfl rfl
  have hp:=passes_of (X:=cxOf (L2.CX P w) P w K mg base ["_law_script", "_law_k", "_law_tape_here", "_law_names_here", "_law_turn_here", "_law_joinings_here", "_law_rows_here", "_law_papers", "_law_again", "_law_thing", "_law_name", "_law_number", "_law_paper"] "law" (defScope Ze) f cdv A outer s H E) rfl
  have D__law_tape:=(d__law_tape).mono (k:=4) (by omega)
  have D__law_names:=(d__law_names).mono (k:=4) (by omega)
  have D__law_turn:=(d__law_turn).mono (k:=4) (by omega)
  have D__law_joinings:=(d__law_joinings).mono (k:=4) (by omega)
  have D__law_rows:=(d__law_rows).mono (k:=4) (by omega)
  have D__law_draw:=(d__law_draw).mono (k:=4) (by omega)
  have D__law_odd:=(d__law_odd).mono (k:=4) (by omega)
  have D__law_bent:=(d__law_bent).mono (k:=4) (by omega)
  have D__law_says:=(d__law_says).mono (k:=4) (by omega)
  refine'(Jf (Zn hp rfl (Qt (by rfl) z_range (Jg (SO.sb (Jk JQ (SO.sb Jd) (SO.sb (Jp (JdL hr rfl) (by rfl) z_min (by rfl) (Jg (SO.sb Jd) (Jg (SO.sb (Jp YX (by rfl) z_len (by rfl) (Jg (Ja 0) Js))) Js)))))) Js)) (Jv 1 hN) (Jf (Ju hN (Jm D__law_tape hr tk (Ji (Ja 0) (Ji (Ja 1) Jl)))) (Jf (Ju hN (UT (Jm D__law_names hr tk (Jx Jl)))) (Jf (Ju hN (Jm D__law_turn hr tk (Jx Jl))) (Jf (Ju hN (UT (Jm D__law_joinings hr tk (Jx (Ji (Ja 3) (Ji (Ja 4) Jl)))))) (Jf (Ju hN (UT (Jm D__law_rows hr tk (Jx (Ji (Ja 3) (Ji (Ja 5) (Ji (Ja 4) Jl))))))) (Jf (Zp (SB.imm (JC hr (SO.sb (JY (Jc (YA (Jc (SB.imm (Ja 3)) (Jc (SB.imm (Ja 5)) Jj))) (Jc (YA (Jc (Ux Jcu (by rfl) z_tuple (by rfl) (Jg (Ja 3) Js)) (Jc (Ux Jcu (by rfl) z_tuple (by rfl) (Jg (Ja 5) Js)) Jj))) Jj)))) (SO.sb (Jm D__law_draw hr tk (Jx (Ji (SO.sb Jd) Jl)))))) (Qe rfl (JS (Jv 3 hN) (JS (Jv 5 hN) Zk)))) (Jf (Ju hN (JY (Jc (SB.imm (Ja 6)) (Jc (Ux od_tupleF (by rfl) z_tuple (by rfl) (Jg (Ja 6) Js)) (Jc (Jm D__law_odd hr tk (Jx Jl)) (Jc (UT (JY (Jc (Jm D__law_odd hr tk (Jx Jl)) Jj))) Jj)))))) (Jf (Zn hp rfl (Qt (by rfl) z_range (Jg (SO.sb Jd) Js)) (Jv 8 hN) (Jf (Ju hN (Jm D__law_odd hr tk (Jx Jl))) (Jf (Up (SW.st (QF (JG (QB hr) (Ja 6) (SO.sb (JY Jj))) (ZR (JG (UW hr) (SO.sb (Jm D__law_draw hr tk (Jx (Ji (SO.sb Jd) Jl)))) (SO.sb Jd))))) (Jf (Zp (SB.imm (JC hr (Ja 6) (SO.sb (Jm D__law_draw hr tk (Jx (Ji (SO.sb (Jp YX (by rfl) z_len (by rfl) (Jg (Ja 6) Js))) Jl)))))) (Qe rfl (JS (Jv 10 hN) (JS (Jv 11 hN) Zk)))) (Jr (Ju hN (SB.imm (JC hr (SO.sb (JY (Jc (YA (Jc (Ye 10) (Jc (Jk JQ (Ja 11) (SO.sb Jd)) Jj))) (Jc (YA (Jc (Ye 10) (Jc (Jch (Ja 11)) Jj))) (Jc (UT (JY (Jc (Ye 10) (Jc (Ye 11) Jj)))) (Jc (YA (Jc (Ye 10) (Jc (Ye 11) (Jc Jd Jj)))) Jj)))))) (SO.sb (Jm D__law_draw hr tk (Jx (Ji (SO.sb Jd) Jl))))))))) Ys) (Jr (Jcd (SO.sb (JdK (ZG 7) (Jc (UT (Jm D__law_bent hr tk (Jx (Ji (Ja 6) (Jx Jl))))) Jj) (by decide) (by rfl) (by rfl) (by rfl) (by rfl) (by rfl)))))))) (Jr (Up (Zm (Zo (SO.sb (Jp (Jbu rfl) (by rfl) z_all (by rfl) (Jg (SO.sb (ZW (own:=[("_law_paper", 12)]) [12] rfl hN (YR (Ja 7)) (blkOk_by (N:=["_law_script", "_law_k", "_law_tape_here", "_law_names_here", "_law_turn_here", "_law_joinings_here", "_law_rows_here", "_law_papers", "_law_again", "_law_thing", "_law_name", "_law_number", "_law_paper"]) (sc:=defScope Ze) (own:=[("_law_paper", 12)]) (by decide +kernel)) (fun _ _ _ _ _=>(Jv 12 hN)) (fun _ _ _ _ _=>UK) (fun _ _ _ _ _=>(so_callG D__law_says hr hG takes0 (Ji (Ja 3) (Ji (Ja 5) (Ji (Ja 4) (Ji (Ja 12) Jl)))))) rfl (by decide) (by decide) (by intro _;rfl))) Js))))) (Jr (JH ZX)) Ys))))))))))) (Jr (JH ZX)))
 case hv=>decide
end
end VS
namespace VS
open PySem L2 SeqAt PySem.Spec PyProof.Rows
def Je7:He.FnD:=⟨("_law_tape", none), "_law_tape", "_law_tape", defArgs Yg,defBody Yg,defScope Yg⟩
def JeU:He.FnD:=⟨("_law_draw", none), "_law_draw", "_law_draw", defArgs Yj,defBody Yj,defScope Yj⟩
def JeX:He.FnD:=⟨("_law_names", none), "_law_names", "_law_names", defArgs JW,defBody JW,defScope JW⟩
def Je0:He.FnD:=⟨("_law_turn", none), "_law_turn", "_law_turn", defArgs Yh,defBody Yh,defScope Yh⟩
def JeN:He.FnD:=⟨("_law_joinings", none), "_law_joinings", "_law_joinings", defArgs JD,defBody JD,defScope JD⟩
def JeQ:He.FnD:=⟨("_law_classes", none), "_law_classes", "_law_classes", defArgs Jw,defBody Jw,defScope Jw⟩
def JeO:He.FnD:=⟨("_law_numbers", none), "_law_numbers", "_law_numbers", defArgs JL,defBody JL,defScope JL⟩
def JeT:He.FnD:=⟨("_law_rows", none), "_law_rows", "_law_rows", defArgs Yk,defBody Yk,defScope Yk⟩
def Je6:He.FnD:=⟨("_law_odd", none), "_law_odd", "_law_odd", defArgs Yz,defBody Yz,defScope Yz⟩
def JeI:He.FnD:=⟨("_law_bent", none), "_law_bent", "_law_bent", defArgs Yl,defBody Yl,defScope Yl⟩
def Jd4:He.FnD:=⟨("is_list", none), "is_list", "is_list", defArgs YU,defBody YU,defScope YU⟩
def JeG:He.FnD:=⟨("is_row_of", none), "is_row_of", "is_row_of", defArgs Yi,defBody Yi,defScope Yi⟩
def Jeo:He.FnD:=⟨("is_whole", none), "is_whole", "is_whole", defArgs YC,defBody YC,defScope YC⟩
def JeC:He.FnD:=⟨("is_named", none), "is_named", "is_named", defArgs YB,defBody YB,defScope YB⟩
def Jeu:He.FnD:=⟨("are_unlike", none), "are_unlike", "are_unlike", defArgs Yc,defBody Yc,defScope Yc⟩
def Jev:He.FnD:=⟨("are_some_of", none), "are_some_of", "are_some_of", defArgs JM,defBody JM,defScope JM⟩
def Jeq:He.FnD:=⟨("counted", none), "counted", "counted", defArgs YV,defBody YV,defScope YV⟩
def JeK:He.FnD:=⟨("shows_numbers", none), "shows_numbers", "shows_numbers", defArgs Jz,defBody Jz,defScope Jz⟩
def Jd7:He.FnD:=⟨("_law_is_int", none), "_law_is_int", "_law_is_int", defArgs JT,defBody JT,defScope JT⟩
def Jd0:He.FnD:=⟨("_law_counted", none), "_law_counted", "_law_counted", defArgs JN,defBody JN,defScope JN⟩
def Jez:He.FnD:=⟨("_law_due", none), "_law_due", "_law_due", defArgs Yo,defBody Yo,defScope Yo⟩
def Jef:He.FnD:=⟨("_law_says", none), "_law_says", "_law_says", defArgs Yd,defBody Yd,defScope Yd⟩
def JeA:He.FnD:=⟨("law", none), "law", "law", defArgs Ze,defBody Ze,defScope Ze⟩
def fz0:List He.FnD:=[Je7,JeU,JeX,Je0,JeN,JeQ,JeO,JeT,Je6,JeI,Jd4,JeG,Jeo,JeC,Jeu,Jev,Jeq,JeK,Jd7,Jd0,Jez,Jef,JeA]
def qz0 (K:PySem.W.Frag):List Bool:=[
 decide (PySem.W.nsIn K mainGlobals "_law_tape" = some (some (.ref (He.ga K "_law_tape")))),
 decide (PySem.W.keepIn K (.ref (He.ga K "_law_tape"))=true),
 decide (PySem.W.nsIn K mainGlobals "_law_draw" = some (some (.ref (He.ga K "_law_draw")))),
 decide (PySem.W.keepIn K (.ref (He.ga K "_law_draw"))=true),
 decide (PySem.W.nsIn K mainGlobals "_law_names" = some (some (.ref (He.ga K "_law_names")))),
 decide (PySem.W.keepIn K (.ref (He.ga K "_law_names"))=true),
 decide (PySem.W.nsIn K mainGlobals "_law_turn" = some (some (.ref (He.ga K "_law_turn")))),
 decide (PySem.W.keepIn K (.ref (He.ga K "_law_turn"))=true),
 decide (PySem.W.nsIn K mainGlobals "_law_joinings" = some (some (.ref (He.ga K "_law_joinings")))),
 decide (PySem.W.keepIn K (.ref (He.ga K "_law_joinings"))=true),
 decide (PySem.W.nsIn K mainGlobals "_law_classes" = some (some (.ref (He.ga K "_law_classes")))),
 decide (PySem.W.keepIn K (.ref (He.ga K "_law_classes"))=true),
 decide (PySem.W.nsIn K mainGlobals "_law_numbers" = some (some (.ref (He.ga K "_law_numbers")))),
 decide (PySem.W.keepIn K (.ref (He.ga K "_law_numbers"))=true),
 decide (PySem.W.nsIn K mainGlobals "_law_rows" = some (some (.ref (He.ga K "_law_rows")))),
 decide (PySem.W.keepIn K (.ref (He.ga K "_law_rows"))=true),
 decide (PySem.W.nsIn K mainGlobals "_law_odd" = some (some (.ref (He.ga K "_law_odd")))),
 decide (PySem.W.keepIn K (.ref (He.ga K "_law_odd"))=true),
 decide (PySem.W.nsIn K mainGlobals "_law_bent" = some (some (.ref (He.ga K "_law_bent")))),
 decide (PySem.W.keepIn K (.ref (He.ga K "_law_bent"))=true),
 decide (PySem.W.nsIn K mainGlobals "is_list" = some (some (.ref (He.ga K "is_list")))),
 decide (PySem.W.keepIn K (.ref (He.ga K "is_list"))=true),
 decide (PySem.W.nsIn K mainGlobals "is_row_of" = some (some (.ref (He.ga K "is_row_of")))),
 decide (PySem.W.keepIn K (.ref (He.ga K "is_row_of"))=true),
 decide (PySem.W.nsIn K mainGlobals "is_whole" = some (some (.ref (He.ga K "is_whole")))),
 decide (PySem.W.keepIn K (.ref (He.ga K "is_whole"))=true),
 decide (PySem.W.nsIn K mainGlobals "is_named" = some (some (.ref (He.ga K "is_named")))),
 decide (PySem.W.keepIn K (.ref (He.ga K "is_named"))=true),
 decide (PySem.W.nsIn K mainGlobals "are_unlike" = some (some (.ref (He.ga K "are_unlike")))),
 decide (PySem.W.keepIn K (.ref (He.ga K "are_unlike"))=true)]
def qz1 (K:PySem.W.Frag):List Bool:=[
 decide (PySem.W.nsIn K mainGlobals "are_some_of" = some (some (.ref (He.ga K "are_some_of")))),
 decide (PySem.W.keepIn K (.ref (He.ga K "are_some_of"))=true),
 decide (PySem.W.nsIn K mainGlobals "counted" = some (some (.ref (He.ga K "counted")))),
 decide (PySem.W.keepIn K (.ref (He.ga K "counted"))=true),
 decide (PySem.W.nsIn K mainGlobals "shows_numbers" = some (some (.ref (He.ga K "shows_numbers")))),
 decide (PySem.W.keepIn K (.ref (He.ga K "shows_numbers"))=true),
 decide (PySem.W.nsIn K mainGlobals "_law_is_int" = some (some (.ref (He.ga K "_law_is_int")))),
 decide (PySem.W.keepIn K (.ref (He.ga K "_law_is_int"))=true),
 decide (PySem.W.nsIn K mainGlobals "_law_counted" = some (some (.ref (He.ga K "_law_counted")))),
 decide (PySem.W.keepIn K (.ref (He.ga K "_law_counted"))=true),
 decide (PySem.W.nsIn K mainGlobals "_law_due" = some (some (.ref (He.ga K "_law_due")))),
 decide (PySem.W.keepIn K (.ref (He.ga K "_law_due"))=true),
 decide (PySem.W.nsIn K mainGlobals "_law_says" = some (some (.ref (He.ga K "_law_says")))),
 decide (PySem.W.keepIn K (.ref (He.ga K "_law_says"))=true),
 decide (PySem.W.nsIn K mainGlobals "law" = some (some (.ref (He.ga K "law")))),
 decide (PySem.W.keepIn K (.ref (He.ga K "law"))=true),
 decide (PySem.W.nsIn K mainGlobals "len" = some none),
 decide (PySem.W.nsIn K mainGlobals "abs" = some none),
 decide (PySem.W.nsIn K mainGlobals "int" = some none),
 decide (PySem.W.nsIn K mainGlobals "min" = some none),
 decide (PySem.W.nsIn K mainGlobals "range" = some none),
 decide (PySem.W.nsIn K mainGlobals "dict" = some none),
 decide (PySem.W.nsIn K mainGlobals "sorted" = some none),
 decide (PySem.W.nsIn K mainGlobals "list" = some none),
 decide (PySem.W.nsIn K mainGlobals "tuple" = some none),
 decide (PySem.W.nsIn K mainGlobals "isinstance" = some none),
 decide (PySem.W.nsIn K mainGlobals "bool" = some none),
 decide (PySem.W.nsIn K mainGlobals "str" = some none),
 decide (PySem.W.nsIn K mainGlobals "set" = some none),
 decide (PySem.W.nsIn K mainGlobals "all" = some none)]
def cz0 (K:PySem.W.Frag):List Bool:=[(He.Fa.code ("_law_tape", none) "_law_tape").ok K,(He.Fa.code ("_law_draw", none) "_law_draw").ok K,(He.Fa.code ("_law_names", none) "_law_names").ok K,(He.Fa.code ("_law_turn", none) "_law_turn").ok K,(He.Fa.code ("_law_joinings", none) "_law_joinings").ok K,(He.Fa.code ("_law_classes", none) "_law_classes").ok K,(He.Fa.code ("_law_numbers", none) "_law_numbers").ok K,(He.Fa.code ("_law_rows", none) "_law_rows").ok K,(He.Fa.code ("_law_odd", none) "_law_odd").ok K,(He.Fa.code ("_law_bent", none) "_law_bent").ok K,(He.Fa.code ("is_list", none) "is_list").ok K,(He.Fa.code ("is_row_of", none) "is_row_of").ok K,(He.Fa.code ("is_whole", none) "is_whole").ok K,(He.Fa.code ("is_named", none) "is_named").ok K,(He.Fa.code ("are_unlike", none) "are_unlike").ok K,(He.Fa.code ("are_some_of", none) "are_some_of").ok K,(He.Fa.code ("counted", none) "counted").ok K,(He.Fa.code ("shows_numbers", none) "shows_numbers").ok K,(He.Fa.code ("_law_is_int", none) "_law_is_int").ok K,(He.Fa.code ("_law_counted", none) "_law_counted").ok K,(He.Fa.code ("_law_due", none) "_law_due").ok K,(He.Fa.code ("_law_says", none) "_law_says").ok K,(He.Fa.code ("law", none) "law").ok K]
abbrev AlZ:Type:=List Bool × (List He.FnV × List (Option (List (Option (Str × Int)))))
def obZ (K:PySem.W.Frag):AlZ:=([(qz0 K).all id,(qz1 K).all id,(cz0 K).all id],(fz0).map (fun d=>He.fnObs K d.at_),[])
def valZ (w:World):AlZ:=([true,true,true],(fz0).map He.FnD.val,[])
def lz0:List PySem.Str:=["counted", "is_whole", "is_row_of", "is_list", "are_unlike", "is_named", "are_some_of", "shows_numbers", "_law_tape", "_law_draw", "_law_same", "_law_names", "_law_turn", "_law_joinings", "_law_counted", "_law_classes", "_law_numbers", "_law_odd", "_law_bent", "_law_is_int"]
def lz1:List PySem.Str:=["_law_due", "_law_rows", "_law_says"]
def loZ:List PySem.Str:=lz0++lz1
def asZ:List Addr:=[3,2,21,28,35,42,49,56,61,66,73,80,85,90,97,102,109,114,121,128]++[135,142,147,154,161,166]++List.range' 15 700
abbrev RZ:PySem.W.OpenRow:=PySem.W.OpenLaw.row PySem.Challenge.rw_joinback_k07_numbers_shown
abbrev qvZ:Program:=PySem.W.view RZ.prog [26]
abbrev hkZ:PySem.W.Hook:=Je8 asZ obZ valZ
theorem runZ_false (w:World):HandSHeadRun.RunEq RZ qvZ hkZ (obT asZ obZ) 6000 loZ (w.withFollow "special-get-raises" false):=by
 intro os
 kernel_rfl
theorem runZ_true (w:World):HandSHeadRun.RunEq RZ qvZ hkZ (obT asZ obZ) 6000 loZ (w.withFollow "special-get-raises" true):=by
 intro os
 kernel_rfl
theorem runZ (w:World):HandSHeadRun.RunEq RZ qvZ hkZ (obT asZ obZ) 6000 loZ w:=PySem.W.byRow2 "special-get-raises" (P:=fun w=>HandSHeadRun.RunEq RZ qvZ hkZ (obT asZ obZ) 6000 loZ w) runZ_false runZ_true w
theorem Yp {K:PySem.W.Frag} {w:World} {d:He.FnD} (c2:(obZ K).2.1=(valZ w).2.1) (i:Nat) (h1:(obZ K).2.1[i]?=some (He.fnObs K d.at_)) (h2:(valZ w).2.1[i]?=some d.val) (c:(He.Fa.code d.at_ d.qual).ok K=true) :
  ∃oc od osl kV doc pm an cdv ct,K.lookup (He.fAd K d.at_)=some ⟨oc,od,.func (PySem.W.fnOf d.name d.qual d.params d.body d.scope .none kV doc pm an cdv ct),osl⟩∧PySem.W.codeIn K cdv d.qual=true:=by
 rw[c2,h2]at h1
 exact He.fn_ok (Option.some.inj h1).symm c
end VS
namespace VS
open PySem L2 SeqAt
def Tri (P:Env→Prop) (c:CS) (Q:Env→Prop):Prop:=∀env,P env→∃env',c env=.nx env'∧Q env'
theorem ZJ {P Q R:Env→Prop} {c1 c2:CS} (h1:Tri P c1 R) (h2:Tri R c2 Q):Tri P (sSeq c1 c2) Q:=fun env h=>by
 obtain⟨e1,k1,k2⟩:=h1 env h
 obtain⟨e2,k3,k4⟩:=h2 e1 k2
 exact⟨e2,by rw[Jep,k1];exact k3,k4⟩
theorem QZ {α:Type} {f:α→D} {g:D→Env→Option Env} {body:CS} {P:List α→Env→Prop} {G:α→List α→Env→Prop} (hg:∀x xs env,P (x::xs) env→∃env1,g (f x) env=some env1∧G x xs env1) (hb:∀x xs,Tri (G x xs) body (P xs)) (xs:List α) :
  ∀env,P xs env→∃env',YJ g body (xs.map f) env=.nx env'∧P [] env':=fun env h=>by
 refine Qo P (fun x xs env h=>?_) xs env h
 obtain⟨e1,k1,k2⟩:=hg x xs env h
 obtain⟨e2,k3,k4⟩:=hb x xs e1 k2
 exact⟨e1,e2,k1,k3,k4⟩
abbrev Tp:=Int × Int
def tp (t:Tp):D:=.lst .m [.int t.1,.int t.2]
def drV (t:Tp) (m:Int):Int:=if 0 < t.1 then t.1 % m else ((t.2 * 48271+39373) % 2147483647 * ((t.2 * 48271+39373) % 2147483647 % 40009+7) % 2147483587) / 64 % m
def drT (t:Tp) (m:Int):Tp:=if 0 < t.1 then (t.1 / m,t.2) else (t.1,(t.2 * 48271+39373) % 2147483647)
theorem Uf {t:Tp} {m:Int} (h:0 < m):0≤drV t m:=by unfold drV;split<;>exact Int.emod_nonneg _ (by omega)
theorem YE {t:Tp} {m:Int} (h:0 < m):drV t m < m:=by unfold drV;split<;>exact Int.emod_lt_of_pos _ h
@[simp] theorem Ug (t:Tp):(tp t).nol=true:=rfl
@[simp] theorem Ur (t:Tp):(tp t).imm=false:=rfl
theorem v_tape (ns:List Int) (k:Nat):∃t,Un [.lst .l (ns.map D.int),.int k]=.ok (tp t) []:=by
 unfold Un JR JaK
 by_cases hk:k < ns.length
 ·have e:atI (ns.map D.int) (k:Int)=some (.int ns[k]):=by rw[UY (by simpa using hk)];simp[hk]
  have hk':(k:Int) < ns.length:=by omega
  exact⟨(_,_),by simp[YG,Ue,JK,hk,hk',e,tp];exact⟨rfl,rfl⟩⟩
 ·have hk':¬ (k:Int) < ns.length:=by omega
  exact⟨(_,_),by simp[YG,Ue,JK,hk,hk',tp];exact⟨rfl,rfl⟩⟩
@[simp] theorem m4a (x:Int):-18446744073709551616 < x % 40009+7:=by omega
@[simp] theorem m4b (x:Int):x % 40009+7 < 18446744073709551616:=by omega
theorem Ya (t:Tp) {m:Int} (h:0 < m) (h2:m < 2 ^ 64):Je [tp t,.int m]=.ok (.int (drV t m)) [tp (drT t m)]:=by
 unfold Je JR JaI
 have h3:m < 18446744073709551616:=h2
 unfold drV drT
 by_cases ha:0 < t.1
 ·simp[YG,Ue,JK,tp,ha,h,h3,stD,ixN,lVar,Ql]
 ·simp[YG,Ue,JK,tp,ha,h,h3,stD,ixN,lVar,Ql]
def lit16:Str := "b aa zebra c quartzes ab m knows d mm likes z a ba abcdefgh y"
def JeZ:List Str:=Txt.split lit16 " "
def Zs (n:Str):Bool:=decide (1≤n.length) && decide (n.length≤8) && n.cps.toList.all fun c=>decide (c∈("abcdefghijklmnopqrstuvwxyz" : Str).cps.toList)
theorem nms16_facts:JeZ.length=16∧JeZ.Nodup∧(JeZ.all Zs)=true:=by decide +kernel
theorem v_split16:Jbl (.str "b aa zebra c quartzes ab m knows d mm likes z a ba abcdefgh y") (.str " ")=some (.lst .m (JeZ.map D.str)) :=
 if_pos (e:=none) (c:=((" " : Str).length == 0)=false∧lit16.length+2≤sizeLine) ⟨by decide +kernel,Yr (by decide +kernel)⟩
structure NOk (ns:List Str):Prop where
 nd:ns.Nodup
 len:ns.length≤14
 ok:∀n∈ns,Zs n=true
 lit:∀n∈ns,n∈JeZ
theorem v_names (t:Tp):∃ns t',YW [tp t]=.ok (.lst .m (ns.map D.str)) [tp t']∧NOk ns:=by
 obtain⟨f1,f2,f3⟩:=nms16_facts
 have hs:=v_split16
 generalize hws:JeZ=ws at f1 f2 f3 hs
 have d16:=Ya t (m:=16) (by decide) (by decide)
 have q0:=Uf (t:=t) (m:=16) (by decide)
 generalize drV t 16=r1 at d16 q0
 generalize drT t 16=t1 at d16
 have d3:=Ya t1 (m:=3) (by decide) (by decide)
 have q1:=Uf (t:=t1) (m:=3) (by decide)
 have q2:=YE (t:=t1) (m:=3) (by decide)
 generalize drV t1 3=r2 at d3 q1 q2
 generalize drT t1 3=t2 at d3
 have d5:=Ya t2 (m:=5) (by decide) (by decide)
 have q3:=Uf (t:=t2) (m:=5) (by decide)
 have q4:=YE (t:=t2) (m:=5) (by decide)
 generalize drV t2 5=r3 at d5 q3 q4
 generalize drT t2 5=t3 at d5
 have d5':=Ya t3 (m:=5) (by decide) (by decide)
 have q5:=Uf (t:=t3) (m:=5) (by decide)
 have q6:=YE (t:=t3) (m:=5) (by decide)
 generalize drV t3 5=r4 at d5' q5 q6
 generalize drT t3 5=t4 at d5'
 have d8:=Ya t4 (m:=8) (by decide) (by decide)
 have q7:=Uf (t:=t4) (m:=8) (by decide)
 generalize drV t4 8=r5 at d8 q7
 generalize drT t4 8=t5 at d8
 have hmany:∃m:Int,atI [D.int r2,.int (10+r3),.int (4+r4)] (if r5 < 2 then r5 else 2)=some (.int m)∧0≤m∧m≤14:=by
  have:r5=0∨r5=1∨2≤r5:=by omega
  rcases this with h | h | h
  ·subst h;exact⟨r2,by simp,by omega,by omega⟩
  ·subst h;exact⟨10+r3,by simp,by omega,by omega⟩
  ·rw[if_neg (by omega)];exact⟨4+r4,by simp,by omega,by omega⟩
 obtain⟨m,hm,m0,m1⟩:=hmany
 have hr:=JdH m (by omega) (by omega)
 let ix:Nat→Nat:=fun k=>((r1+5 * (k:Int)) % 16).toNat
 have ixl:∀k,ix k < ws.length:=fun k=>by show ((r1+5 * (k:Int)) % 16).toNat < _;omega
 let y:D→D:=fun d=>match d with
  | .int k=>.str (ws.getD (ix k.toNat) Str.empty)
  | _=>.non
 have at5:∀k:Nat,atI (ws.map D.str) ((r1+5 * (k:Int)) % 16)=some (.str (ws.getD (ix k) Str.empty)):=fun k=>by
  have h0:0≤(r1+5 * (k:Int)) % 16:=Int.emod_nonneg _ (by decide)
  have e:(r1+5 * (k:Int)) % 16=((ix k:Nat):Int):=by show _=((((r1+5 * (k:Int)) % 16).toNat:Nat):Int);omega
  rw[e,UY (by simpa using ixl k),List.getElem?_map,List.getD_eq_getElem?_getD,List.getElem?_eq_getElem (ixl k)];rfl
 have hc:=JaA (vs:=[4]) (g:=gSet 4) (ce:=cImm (cIdx (cVar 1) (c2 pMod (c2 pAdd (cVar 2) (c2 Zd (cK (.int 5)) (cVar 4))) (cK (.int 16))))) (env:=[some (tp t5),some (.lst .m (ws.map D.str)),some (.int r1),some (.int m),none])
  (y:=y) (ds:=(List.range m.toNat).map fun (i:Nat)=>D.int (i:Nat)) (by
   intro x hx
   obtain⟨k,hk,rfl⟩:=List.mem_map.mp hx
   refine⟨[some (tp t5),some (.lst .m (ws.map D.str)),some (.int r1),some (.int m),some (.int k)],by simp,rfl,?_,by simp⟩
   have e:y (.int k)=.str (ws.getD (ix k) Str.empty):=rfl
   rw[e]
   simp[at5 k])
 have hmap:((List.range m.toNat).map fun (i:Nat)=>D.int (i:Nat)).map y=((List.range m.toNat).map fun i=>ws.getD (ix i) Str.empty).map D.str:=by
  rw[List.map_map,List.map_map];rfl
 rw[hmap]at hc
 have hz:m.toNat≤sizeLine:=Yr (by omega)
 refine⟨(List.range m.toNat).map fun i=>ws.getD (ix i) Str.empty,t5,?_,?_,by simp;omega,fun n hn=>?_,fun n hn=>?_⟩
 ·unfold YW JR QQ
  simp[YG,Ue,JK,hs,d16,d3,d5,d5',d8,hm,hr,hz,hc]
 ·refine List.pairwise_map.mpr (List.Pairwise.imp_of_mem (R:=fun a b=>a < b) (fun {a b} ha hb hab=>?_) List.pairwise_lt_range)
  simp only[List.mem_range]at ha hb
  rw[List.getD_eq_getElem?_getD,List.getD_eq_getElem?_getD,List.getElem?_eq_getElem (ixl a),List.getElem?_eq_getElem (ixl b)]
  intro e
  have pw:=List.pairwise_iff_getElem.mp f2
  have e:ws[ix a]'(ixl a)=ws[ix b]'(ixl b):=by simpa using e
  have h1:ix a=ix b:=by
   rcases Nat.lt_trichotomy (ix a) (ix b) with z | z | z
   ·exact absurd e (pw _ _ (ixl a) (ixl b) z)
   ·exact z
   ·exact absurd e.symm (pw _ _ (ixl b) (ixl a) z)
  have h1:((r1+5 * (a:Int)) % 16).toNat=((r1+5 * (b:Int)) % 16).toNat:=h1
  omega
 ·obtain⟨i,_,rfl⟩:=List.mem_map.mp hn
  rw[List.getD_eq_getElem?_getD,List.getElem?_eq_getElem (ixl i)]
  exact List.all_eq_true.mp f3 _ (List.getElem_mem _)
 ·obtain⟨i,_,rfl⟩:=List.mem_map.mp hn
  rw[List.getD_eq_getElem?_getD,List.getElem?_eq_getElem (ixl i),hws]
  exact List.getElem_mem _
end VS
namespace VS
open PySem L2 SeqAt
theorem v_turn (t:Tp):∃z t',Uk [tp t]=.ok (.int z) [tp t']∧0≤z∧z≤1000:=by
 have e8:=Ya t (m:=8) (by decide) (by decide)
 have h0:=Uf (t:=t) (m:=8) (by decide)
 have h1:=YE (t:=t) (m:=8) (by decide)
 unfold Uk JR JaG
 generalize hv:drV t 8=v at *
 have:v=0∨v=1∨v=2∨v=3∨v=4∨v=5∨v=6∨v=7:=by omega
 have s8:8≤sizeLine:=Yr (by decide)
 rcases this with h | h | h | h | h | h | h | h<;>subst h<;>exact⟨_,_,by simp[YG,Ue,JK,e8,s8,atI,ixN];exact⟨rfl,rfl⟩,by decide,by decide⟩
end VS
namespace VS
open PySem L2 SeqAt
abbrev Jn:=Str × Str × Int
def jt (j:Jn):D:=.tup [.str j.1,.str j.2.1,.int j.2.2]
def pt (p:Int × Int):D:=.tup [.int p.1,.int p.2]
@[simp] theorem imm_jt (j:Jn):(jt j).imm=true:=rfl
@[simp] theorem imm_pt (j:Int × Int):(pt j).imm=true:=rfl
@[simp] theorem lend_jt (j:Jn):(jt j).lend=jt j:=rfl
@[simp] theorem lend_pt (j:Int × Int):(pt j).lend=pt j:=rfl
@[simp] theorem JbG:∀js:List Jn,imms (js.map jt)=true
 | []=>rfl
 | j::js=>by simp[JbG js]
@[simp] theorem imms_pts:∀js:List (Int × Int),imms (js.map pt)=true
 | []=>rfl
 | j::js=>by simp[imms_pts js]
@[simp] theorem Jar:∀js:List Jn,lends (js.map jt)=js.map jt
 | []=>rfl
 | j::js=>by simp[Jar js]
@[simp] theorem lends_pts:∀js:List (Int × Int),lends (js.map pt)=js.map pt
 | []=>rfl
 | j::js=>by simp[lends_pts js]
@[simp] theorem ZK:∀js:List Str,lends (js.map D.str)=js.map D.str
 | []=>rfl
 | j::js=>by simp[ZK js]
@[simp] theorem nol_jt (j:Jn):(jt j).nol=true:=rfl
@[simp] theorem nol_pt (j:Int × Int):(pt j).nol=true:=rfl
@[simp] theorem JcR:∀js:List Jn,nols (js.map jt)=true
 | []=>rfl
 | j::js=>by simp[JcR js]
@[simp] theorem nols_pts:∀js:List (Int × Int),nols (js.map pt)=true
 | []=>rfl
 | j::js=>by simp[nols_pts js]
@[simp] theorem JbX:∀js:List Str,nols (js.map D.str)=true
 | []=>rfl
 | j::js=>by simp[JbX js]
@[simp] theorem nols_ints:∀js:List Int,nols (js.map D.int)=true
 | []=>rfl
 | j::js=>by simp[nols_ints js]
inductive Hold {α:Type} (f:α→D) (js:List α):D→Prop
 | l:Hold f js (.lst .l (js.map f))
 | t:Hold f js (.tup (js.map f))
theorem Jb5 (n:Nat):∀js:List Jn,eqOks (n+1) (js.map jt)=true
 | []=>rfl
 | j::js=>by
  have:=Jb5 n js
  simp only[List.map_cons,eqOks,this,Bool.and_true];rfl
theorem Jd1 (g:Fl) (js:List Jn):pNe (.lst g (js.map jt)) (.lst .m [])=some (.bl (!js.isEmpty)):=by
 unfold pNe
 have h:eqOk 40 (.lst g (js.map jt))=true:=Jb5 38 js
 have h2:eqOk 40 (.lst .m [])=true:=rfl
 rw[h,h2]
 cases js<;>rfl
structure JOk (ns:List Str) (js:List Jn):Prop where
 one:∀j∈js,j.1∈ns
 other:∀j∈js,j.2.1∈ns
 lo:∀j∈js,-1000000000000≤j.2.2
 hi:∀j∈js,j.2.2≤1000000000000
theorem JOk.snoc {ns:List Str} {js:List Jn} (h:JOk ns js) {x y:Str} {z:Int} (hx:x∈ns) (hy:y∈ns) (h1:-1000000000000≤z) (h2:z≤1000000000000):JOk ns (js++[(x,y,z)]):=by
 have go:∀{P:Jn→Prop},(∀j∈js,P j)→P (x,y,z)→∀j∈js++[(x,y,z)],P j:=fun h1 h2 j hj=>by
  rcases List.mem_append.mp hj with q | q
  ·exact h1 j q
  ·simp at q;subst q;exact h2
 exact⟨go h.one hx,go h.other hy,go h.lo h1,go h.hi h2⟩
theorem Jdk {ns:List Str} {r:Int} (h0:0≤r) (h1:r < ns.length):∃s,s∈ns∧atI (ns.map D.str) r=some (.str s):=by
 obtain⟨x,m,_,e⟩:=JaY (f:=D.str) h0 h1
 exact⟨x,m,e⟩
theorem Je1 {js:List Jn} {r:Int} (h0:0≤r) (h1:r < js.length):∃j,j∈js∧atI (js.map jt) r=some (jt j):=by
 obtain⟨x,m,_,e⟩:=JaY (f:=jt) h0 h1
 exact⟨x,m,e⟩
theorem cut2 (x y z:D):cutD [x,y,z] none (some 2)=[x,y]:=(rfl)
theorem JdG {P:Int→Prop}:∀{ns:List Str} {ys:List D},Paired (fun d y=>∃(s:Str) (n:Int),d=.str s∧y=.tup [.str s,.int n]∧P n) (ns.map D.str) ys →
  imms ys=true∧∃ps,Zb ys=some ps∧(∀p∈ps,∃n:Int,p.2=.int n∧P n)∧∀s∈ns,∃p∈ps,p.1=Sum.inr s
 | [],ys,h=>by cases h;exact⟨rfl,[],rfl,(fun _ z=>nomatch z),(fun _ z=>nomatch z)⟩
 | x::ns,ys,h=>by
  rw[List.map_cons]at h
  cases h with
  | cons h1 h2 =>
   obtain⟨s,n,e1,rfl,hp⟩:=h1
   cases e1
   obtain⟨i1,ps,i2,i3,i4⟩:=JdG h2
   refine⟨by simp[i1],(Sum.inr x,.int n)::ps,by simp[Zb,D.key,i2],fun p hp'=>?_,fun s hs=>?_⟩
   ·rcases List.mem_cons.mp hp' with z | z
    ·subst z;exact⟨n,rfl,hp⟩
    ·exact i3 p z
   ·rcases List.mem_cons.mp hs with z | z
    ·subst z;exact⟨_,List.mem_cons_self,rfl⟩
    ·obtain⟨p,hp,e⟩:=i4 s z
     exact⟨p,List.mem_cons_of_mem _ hp,e⟩
end VS
namespace VS
open PySem L2 SeqAt
section
variable (ns:List Str) (t w sl:Int) (dk:D)
def JE (js:List J) (T:Tp) (o8 o9 o10 o11 o12:Option D):Env:=[some (tp T),some (.lst .l (ns.map D.str)),some (.int t),some (.lst .m (js.map jt)),some (.int w),some dk,none,some (.int sl),o8,o9,o10,o11,o12]
def JP (k:Nat) (env:Env):Prop:=∃js T o8 o9 o10 o11 o12,env=JE ns t w sl dk js T o8 o9 o10 o11 o12∧JOk ns js∧js.length=k
def JQ1 (k:Nat) (env:Env):Prop:=∃js T o8 o9 o10 x y,env=JE ns t w sl dk js T o8 o9 o10 (some (.str x)) (some (.str y))∧JOk ns js∧js.length=k∧x∈ns∧y∈ns
def JQ2 (k:Nat) (env:Env):Prop:=∃js T o8 r o10 x y,env=JE ns t w sl dk js T o8 (some (.int r)) o10 (some (.str x)) (some (.str y))∧JOk ns js∧js.length=k∧x∈ns∧y∈ns
def JQ3 (b:Int) (k:Nat) (env:Env):Prop:=∃js T o8 o9 z x y,env=JE ns t w sl dk js T o8 o9 (some (.int z)) (some (.str x)) (some (.str y))∧JOk ns js∧js.length=k∧x∈ns∧y∈ns∧-b≤z∧z≤b
variable {ns t w sl dk}
theorem v_join_step (h0:0 < ns.length) (h1:ns.length≤40) (ht:0≤t∧t≤1000) (hw:0 < w∧w≤400000000000) (hsl:0≤sl∧sl≤12) (hk:∀s∈ns,∃n:Int,ixD dk (.str s)=some (.int n)∧-w≤n∧n < w) {k:Nat} (hn:k≤100) :
  Tri (JP ns t w sl dk k) Ua (JP ns t w sl dk (k+1)):=by
 have hl0:(0:Int) < ns.length:=by omega
 have hl64:(ns.length:Int) < 2 ^ 64:=by omega
 have dn:=fun T=>Ya T hl0 hl64
 have q0:=fun T=>Uf (t:=T) hl0
 have q1:=fun T=>YE (t:=T) hl0
 have hb:-18446744073709551616 < t∧t < 18446744073709551616:=by omega
 unfold Ua
 refine ZJ (R:=JQ1 ns t w sl dk k) ?_ (ZJ (R:=JQ2 ns t w sl dk k) ?_ (ZJ (R:=JQ2 ns t w sl dk k) ?_ (ZJ (R:=JQ2 ns t w sl dk k) ?_ (ZJ (R:=JQ2 ns t w sl dk k) ?_ (ZJ (R:=JQ3 ns t w sl dk 810000000000 k) ?_ (ZJ (R:=JQ3 ns t w sl dk 1000000000000 k) ?_ ?_))))))
 ·rintro env ⟨js,T,o8,o9,o10,o11,o12,rfl,hj,hl⟩
  obtain⟨x,m1,g1⟩:=Jdk (q0 T) (q1 T)
  obtain⟨y,m2,g2⟩:=Jdk (q0 (drT T ns.length)) (q1 (drT T ns.length))
  exact⟨JE ns t w sl dk js (drT (drT T ns.length) ns.length) o8 o9 o10 (some (.str x)) (some (.str y)),by unfold JE;simp[dn,g1,g2],_,_,_,_,_,_,_,rfl,hj,hl,m1,m2⟩
 ·rintro env ⟨js,T,o8,o9,o10,x,y,rfl,hj,hl,hx,hy⟩
  have d9:=Ya T (m:=9) (by decide) (by decide)
  exact⟨JE ns t w sl dk js (drT T 9) o8 (some (.int (drV T 9))) o10 (some (.str x)) (some (.str y)),by unfold JE;simp[d9],_,_,_,_,_,_,_,rfl,hj,hl,hx,hy⟩
 ·rintro env ⟨js,T,o8,r,o10,x,y,rfl,hj,hl,hx,hy⟩
  by_cases hr:r=0
  ·exact⟨JE ns t w sl dk js T o8 (some (.int r)) o10 (some (.str x)) (some (.str x)),by unfold JE;simp[hr],_,_,_,_,_,_,_,rfl,hj,hl,hx,hx⟩
  ·exact⟨JE ns t w sl dk js T o8 (some (.int r)) o10 (some (.str x)) (some (.str y)),by unfold JE;simp[hr],_,_,_,_,_,_,_,rfl,hj,hl,hx,hy⟩
 ·rintro env ⟨js,T,o8,r,o10,x,y,rfl,hj,hl,hx,hy⟩
  have hne:=Jd1 .m js
  by_cases hr:r=1∧js≠[]
  ·have hje:js.isEmpty=false:=by simpa using hr.2
   have hjl:(0:Int) < js.length:=by have:=List.length_pos_iff.mpr hr.2;omega
   have d4:=Ya T hjl (by omega)
   obtain⟨j,hm,g⟩:=Je1 (Uf (t:=T) hjl) (YE (t:=T) hjl)
   rw[hje]at hne
   exact⟨JE ns t w sl dk js (drT T js.length) o8 (some (.int r)) o10 (some (.str j.1)) (some (.str j.2.1)),by unfold JE;simp[hr.1,hne,d4,g,jt,cut2],_,_,_,_,_,_,_,rfl,hj,hl,hj.one j hm,hj.other j hm⟩
  ·refine⟨JE ns t w sl dk js T o8 (some (.int r)) o10 (some (.str x)) (some (.str y)),?_,_,_,_,_,_,_,_,rfl,hj,hl,hx,hy⟩
   by_cases h1:r=1
   ·have:js=[]:=Classical.byContradiction fun z=>hr ⟨h1,z⟩
    subst this;unfold JE
    simp only[List.map_nil,List.isEmpty_nil]at hne
    simp[h1,hne]
   ·unfold JE;simp[h1]
 ·rintro env ⟨js,T,o8,r,o10,x,y,rfl,hj,hl,hx,hy⟩
  have hne:=Jd1 .m js
  by_cases hr:r=2∧js≠[]
  ·have hje:js.isEmpty=false:=by simpa using hr.2
   have hjl:(0:Int) < js.length:=by have:=List.length_pos_iff.mpr hr.2;omega
   have d4:=Ya T hjl (by omega)
   obtain⟨j,hm,g⟩:=Je1 (Uf (t:=T) hjl) (YE (t:=T) hjl)
   rw[hje]at hne
   exact⟨JE ns t w sl dk js (drT T js.length) o8 (some (.int r)) o10 (some (.str j.2.1)) (some (.str j.1)),by unfold JE;simp[hr.1,hne,d4,g,jt,cut2],_,_,_,_,_,_,_,rfl,hj,hl,hj.other j hm,hj.one j hm⟩
  ·refine⟨JE ns t w sl dk js T o8 (some (.int r)) o10 (some (.str x)) (some (.str y)),?_,_,_,_,_,_,_,_,rfl,hj,hl,hx,hy⟩
   by_cases h1:r=2
   ·have:js=[]:=Classical.byContradiction fun z=>hr ⟨h1,z⟩
    subst this;unfold JE
    simp only[List.map_nil,List.isEmpty_nil]at hne
    simp[h1,hne]
   ·unfold JE;simp[h1]
 ·rintro env ⟨js,T,o8,r,o10,x,y,rfl,hj,hl,hx,hy⟩
  obtain⟨nx,k1,a1,a2⟩:=hk x hx
  obtain⟨ny,k2,b1,b2⟩:=hk y hy
  have d5:=Ya T (m:=5) (by decide) (by decide)
  have z0:=Uf (t:=T) (m:=5) (by decide)
  have z1:=YE (t:=T) (m:=5) (by decide)
  have e1:-2000≤t * (drV T 5 - 2):=by have:=Int.mul_le_mul_of_nonneg_left (show -2≤drV T 5 - 2 by omega) ht.1;omega
  have e2:t * (drV T 5 - 2)≤2000:=by have:=Int.mul_le_mul_of_nonneg_left (show drV T 5 - 2≤2 by omega) ht.1;omega
  exact⟨JE ns t w sl dk js (drT T 5) o8 (some (.int r)) (some (.int (ny - nx+t * (drV T 5 - 2)))) (some (.str x)) (some (.str y)),by unfold JE;simp[k1,k2,d5,hb],_,_,_,_,_,_,_,rfl,hj,hl,hx,hy,by omega,by omega⟩
 ·rintro env ⟨js,T,o8,o9,z,x,y,rfl,hj,hl,hx,hy,z1,z2⟩
  by_cases hs:0 < sl
  ·have d6:=Ya T hs (by omega)
   by_cases hr:drV T sl=0
   ·have d7:=Ya (drT T sl) (m:=4) (by decide) (by decide)
    have y0:=Uf (t:=drT T sl) (m:=4) (by decide)
    have y1:=YE (t:=drT T sl) (m:=4) (by decide)
    obtain⟨u,hu,u1,u2⟩:∃u:Int,atI [D.int 1,.int (-1),.int 2,.int 100000000000] (drV (drT T sl) 4)=some (.int u)∧-1≤u∧u≤100000000000:=by
     generalize drV (drT T sl) 4=r7 at *
     have:r7=0∨r7=1∨r7=2∨r7=3:=by omega
     rcases this with h | h | h | h<;>subst h<;>exact⟨_,rfl,by decide,by decide⟩
    exact⟨JE ns t w sl dk js (drT (drT T sl) 4) o8 o9 (some (.int (z+u))) (some (.str x)) (some (.str y)),by unfold JE;simp[hs,d6,hr,d7,hu],_,_,_,_,_,_,_,rfl,hj,hl,hx,hy,by omega,by omega⟩
   ·exact⟨JE ns t w sl dk js (drT T sl) o8 o9 (some (.int z)) (some (.str x)) (some (.str y)),by unfold JE;simp[hs,d6,hr],_,_,_,_,_,_,_,rfl,hj,hl,hx,hy,by omega,by omega⟩
  ·exact⟨JE ns t w sl dk js T o8 o9 (some (.int z)) (some (.str x)) (some (.str y)),by unfold JE;simp[hs],_,_,_,_,_,_,_,rfl,hj,hl,hx,hy,by omega,by omega⟩
 ·rintro env ⟨js,T,o8,o9,z,x,y,rfl,hj,hl,hx,hy,z1,z2⟩
  have hlen:js.length < sizeLine:=JaN (by omega)
  exact⟨JE ns t w sl dk (js++[(x,y,z)]) T o8 o9 (some (.int z)) (some (.str x)) (some (.str y)),by unfold JE;simp[hlen,jt],_,_,_,_,_,_,_,rfl,hj.snoc hx hy z1 z2,by simp[hl]⟩
end
theorem v_joinings (T:Tp) {ns:List Str} {t:Int} (h1:ns.length≤40) (ht:0≤t∧t≤1000):∃js T',Ym [tp T,.lst .l (ns.map D.str),.int t]=.ok (.lst .m (js.map jt)) [tp T']∧JOk ns js∧js.length≤80:=by
 have e1:=Ya T (m:=6) (by decide) (by decide)
 have p1:=Uf (t:=T) (m:=6) (by decide)
 have q1:=YE (t:=T) (m:=6) (by decide)
 obtain⟨w,w1,w2,w3⟩:∃w:Int,atI [D.int 3,.int 3,.int 12,.int 12,.int 12,.int 400000000000] (drV T 6)=some (.int w)∧0 < w∧w≤400000000000:=by
  generalize drV T 6=r1 at *
  have:r1=0∨r1=1∨r1=2∨r1=3∨r1=4∨r1=5:=by omega
  rcases this with h | h | h | h | h | h<;>subst h<;>exact⟨_,rfl,by decide,by decide⟩
 have hc:=JeR (vs:=[6]) (g:=gSet 6) (ce:=cTup (Jb (cGet 6) (Jb (c2 pSub (Jo Je (aOw (cMv 0) (some 0) (aRo (c2 Zd (cK (.int 2)) (cVar 4)) aNil))) (cVar 4)) cNil)))
  (Iv:=fun env=>∃T,env=[some (tp T),some (.lst .l (ns.map D.str)),some (.int t),some (.lst .m []),some (.int w),none,none,none,none,none,none,none,none])
  (Y:=fun d y=>∃(s:Str) (n:Int),d=.str s∧y=.tup [.str s,.int n]∧(-w≤n∧n < w)) (ds:=ns.map D.str) (env:=[some (tp (drT T 6)),some (.lst .l (ns.map D.str)),some (.int t),some (.lst .m []),some (.int w),none,none,none,none,none,none,none,none]) ⟨_,rfl⟩ (by
   rintro d hd env ⟨T,rfl⟩
   obtain⟨s,hs,rfl⟩:=List.mem_map.mp hd
   have e2:=Ya T (m:=2 * w) (by omega) (by omega)
   have p2:=Uf (t:=T) (m:=2 * w) (by omega)
   have q2:=YE (t:=T) (m:=2 * w) (by omega)
   refine⟨[some (tp T),some (.lst .l (ns.map D.str)),some (.int t),some (.lst .m []),some (.int w),none,some (.str s),none,none,none,none,none,none],.tup [.str s,.int (drV T (2 * w) - w)],
    [some (tp (drT T (2 * w))),some (.lst .l (ns.map D.str)),some (.int t),some (.lst .m []),some (.int w),none,some (.str s),none,none,none,none,none,none],rfl,rfl,?_,⟨s,_,rfl,rfl,by omega,by omega⟩,_,rfl⟩
   have hb:w < 18446744073709551616:=by omega
   have hb2:-18446744073709551616 < w:=by omega
   simp[e2,hb,hb2])
 obtain⟨ys,env2,k1,⟨T2,rfl⟩,k3⟩:=hc
 obtain⟨i1,ps,i2,i3,i4⟩:=JdG (P:=fun n=>-w≤n∧n < w) k3
 have hd:Jbf [.lst .m ys]=some (.dct .m (mkD ps).1 (mkD ps).2):=by
  show (if imms ys=true then (Zb ys).map _ else none)=_
  rw[if_pos i1,i2];rfl
 have hk:∀s∈ns,∃n:Int,ixD (.dct .m (mkD ps).1 (mkD ps).2) (.str s)=some (.int n)∧-w≤n∧n < w:=fun s hs=>by
  obtain⟨p,hp,e⟩:=i4 s hs
  obtain⟨x,hx,n,rfl,hn⟩:=mk_look (P:=fun x=>∃n:Int,x=.int n∧(-w≤n∧n < w)) i3 p hp
  rw[e]at hx
  exact⟨n,hx,hn⟩
 generalize D.dct .m (mkD ps).1 (mkD ps).2=dk at hd hk
 have e3:=Ya T2 (m:=4) (by decide) (by decide)
 have p3:=Uf (t:=T2) (m:=4) (by decide)
 have q3:=YE (t:=T2) (m:=4) (by decide)
 obtain⟨sl,s1,s2,s3⟩:∃sl:Int,atI [D.int 0,.int 0,.int 3,.int 12] (drV T2 4)=some (.int sl)∧0≤sl∧sl≤12:=by
  generalize drV T2 4=r3 at *
  have:r3=0∨r3=1∨r3=2∨r3=3:=by omega
  rcases this with h | h | h | h<;>subst h<;>exact⟨_,rfl,by decide,by decide⟩
 have e4:=Ya (drT T2 4) (m:=2 * ns.length+1) (by omega) (by omega)
 have p4:=Uf (t:=drT T2 4) (m:=2 * ns.length+1) (by omega)
 have q4:=YE (t:=drT T2 4) (m:=2 * ns.length+1) (by omega)
 generalize drV (drT T2 4) (2 * ns.length+1)=r4 at e4 p4 q4
 have hr:=JdH r4 (by omega) (by omega)
 have hloop:=QZ (f:=fun i:Nat=>D.int (i:Nat)) (g:=gSet 8) (body:=Ua) (P:=fun rest env=>∃k,JP ns t w sl dk k env∧k+rest.length=r4.toNat) (G:=fun _ rest env=>∃k,JP ns t w sl dk k env∧k+rest.length+1=r4.toNat)
  (fun x xs env ⟨k,⟨js,T,o8,o9,o10,o11,o12,e,hj,hl⟩,hk'⟩=>⟨env.set 8 (some (.int x)),rfl,k,⟨js,T,some (.int x),o9,o10,o11,o12,by rw[e];rfl,hj,hl⟩,by simp at hk';omega⟩)
  (fun x xs env ⟨k,hp,hk'⟩=>by
   obtain⟨env',a1,a2⟩:=v_join_step (by omega) h1 ht ⟨w2,w3⟩ ⟨s2,s3⟩ hk (k:=k) (by omega) env hp
   exact⟨env',a1,k+1,a2,by omega⟩) (List.range r4.toNat) (JE ns t w sl dk [] (drT (drT T2 4) (2 * ns.length+1)) none none none none none) ⟨0,⟨[],_,_,_,_,_,_,rfl,⟨fun _ z=>(nomatch z),fun _ z=>(nomatch z),fun _ z=>(nomatch z),fun _ z=>(nomatch z)⟩,rfl⟩,by simp⟩
 obtain⟨env3,f1,k,⟨js,T5,o8,o9,o10,o11,o12,rfl,hj,hl⟩,hkk⟩:=hloop
 refine⟨js,T5,?_,hj,by simp at hkk;omega⟩
 have hz:ns.length≤sizeLine:=Yr (by omega)
 unfold Ym JR ZZ
 unfold JE at f1
 simp only[List.map_nil]at f1
 simp[YG,Ue,JK,e1,w1,hz,k1,hd,e3,s1,e4,hr,f1]
end VS
namespace VS
open PySem L2 SeqAt
theorem Jcc {α:Type} {f:α→D} {vs:List Nat} {g:D→Env→Option Env} {ct:CT} {ce:CE} {env:Env} {y:α→D} {t:α→Bool}:∀{xs:List α},(∀x∈xs,∃env1,g (f x) env=some env1∧env1.length=env.length∧ct env1=.ok (t x) env1∧(t x=true→ce env1=.ok (y x) env1)∧Yv env1 vs=env) →
  UA vs g ct ce (xs.map f) env=some ((xs.filter t).map y,env)
 | [],_=>rfl
 | d::ds,h=>by
  obtain⟨env1,h1,h2,h3,h4,h5⟩:=h d (by simp)
  have ih:=Jcc (f:=f) (vs:=vs) (g:=g) (ct:=ct) (ce:=ce) (env:=env) (y:=y) (t:=t) (xs:=ds) fun d hd=>h d (by simp[hd])
  rw[List.map_cons]
  unfold UA
  cases ht:t d with
  | true=>rw[ht]at h3;simp[h1,h2,h3,h4 ht,h5,ih,ht]
  | false=>rw[ht]at h3;simp[h1,h2,h3,h5,ih,ht]
theorem Jdz {α:Type} {f:α→D} {vs:List Nat} {g:D→Env→Option Env} {ce:CE} {env:Env} {y:α→D} {xs:List α} (h:∀x∈xs,∃env1,g (f x) env=some env1∧env1.length=env.length∧ce env1=.ok (y x) env1∧Yv env1 vs=env) :
  UA vs g cYes ce (xs.map f) env=some (xs.map y,env):=by
 have:=Jcc (f:=f) (vs:=vs) (g:=g) (ct:=cYes) (ce:=ce) (env:=env) (y:=y) (t:=fun _=>true) (xs:=xs) fun x hx=>by
  obtain⟨env1,h1,h2,h3,h4⟩:=h x hx
  exact⟨env1,h1,h2,rfl,fun _=>h3,h4⟩
 rw[this,List.filter_eq_self.mpr fun _ _=>rfl]
theorem Jy {c1 c2:CS} {env env1:Env} {o:O} (h1:c1 env=.nx env1) (h2:c2 env1=o):sSeq c1 c2 env=o:=by rw[Jep,h1];exact h2
theorem Uz {n:Nat} {io:List Bool} {b:CS} {ds os:List D} {d:D} {env env0:Env} (h1:ds.length=io.length∧io.length≤n) (h0:YG n ds=env0) (hb:b env0=.rt d env) (ho:JK io env=some os):JR n io b ds=.ok d os:=by
 unfold JR
 rw[if_pos h1,h0,hb]
 simp[Ue,ho]
mutual
theorem pyEq_refl:∀{n:Nat} {d:D},eqOk n d=true→pyEq d d=true
 | _,.non,_=>by unfold pyEq;rfl
 | _,.bl b,_=>by unfold pyEq;simp
 | _,.int i,_=>by unfold pyEq;simp
 | _,.str s,_=>by unfold pyEq;simp
 | n+1,.lst g ds,h=>by unfold eqOk at h;unfold pyEq;exact pyEqs_refl h
 | n+1,.tup ds,h=>by unfold eqOk at h;unfold pyEq;exact pyEqs_refl h
 | 0,.lst g ds,h=>by simp[eqOk]at h
 | 0,.tup ds,h=>by simp[eqOk]at h
 | _,.ty _,h=>by simp[eqOk]at h
 | _,.dct _ _ _,h=>by simp[eqOk]at h
 | _,.obj _ _ _ _,h=>by simp[eqOk]at h
theorem pyEqs_refl:∀{n:Nat} {ds:List D},eqOks n ds=true→pyEqs ds ds=true
 | _,[],_=>by unfold pyEqs;rfl
 | n,d::ds,h=>by
  unfold eqOks at h
  have:=Bool.and_eq_true_iff.mp h
  unfold pyEqs
  rw[pyEq_refl this.1,pyEqs_refl this.2];rfl
end
end VS
namespace VS
open PySem L2 SeqAt
theorem JaE {n:Str} (h:Zs n=true):(PyData.str n).leavesShort 24=true∧(PyData.str n).showable=true∧(PyData.str n).weight≤8:=by
 unfold Zs at h
 simp only[Bool.and_eq_true,decide_eq_true_eq,List.all_eq_true]at h
 refine⟨?_,rfl,h.1.2⟩
 simp only[PyData.leavesShort,List.all_eq_true,decide_eq_true_eq]
 intro c hc
 have hm:=h.2 c hc
 have:∀c∈("abcdefghijklmnopqrstuvwxyz" : Str).cps.toList,c < 16 ^ 8:=by decide
 exact this c hm
structure Sh (w k:Nat) (y:PyData):Prop where
 l:y.leavesShort 24=true
 s:y.showable=true
 w:y.weight≤w
 d:y.depth≤k
theorem JeJ {α:Type} {f:α→PyData} {w k:Nat}:∀{xs:List α},(∀x∈xs,Sh w k (f x))→PyData.leavesShortAll 24 (xs.map f)=true∧PyData.showableAll (xs.map f)=true∧PyData.weightAll (xs.map f)≤(w+1) * xs.length∧PyData.depthAll (xs.map f)≤k
 | [],_=>⟨rfl,rfl,by simp[PyData.weightAll],by simp[PyData.depthAll]⟩
 | x::xs,h=>by
  obtain⟨a1,a2,a3,a4⟩:=JeJ (xs:=xs) fun y hy=>h y (by simp[hy])
  have q:=h x (by simp)
  refine⟨by simp[PyData.leavesShortAll,q.l,a1],by simp[PyData.showableAll,q.s,a2],?_,?_⟩
  ·have:=q.w
   simp only[List.map_cons,PyData.weightAll,List.length_cons]
   rw[Nat.mul_add];omega
  ·have:=q.d
   simp only[List.map_cons,PyData.depthAll];omega
theorem sh_name {n:Str} (h:Zs n=true):Sh 8 0 (.str n):=⟨(JaE h).1,(JaE h).2.1,(JaE h).2.2,by simp[PyData.depth]⟩
end VS
namespace VS
open PySem L2 SeqAt
def pln:Nat→D→Bool
 | 0,_=>false
 | n+1,.non=>true
 | n+1,.bl _=>true
 | n+1,.int _=>true
 | n+1,.str _=>true
 | n+1,.tup ds=>decide (ds.length≤1000000) && ds.all (pln n)
 | n+1,.lst .l ds=>decide (ds.length≤1000000) && ds.all (pln n)
 | _,_=>false
theorem Uj {ds:List D} (h:∀d∈ds,d.imm=true):imms ds=true:=by rw[Qg,List.all_eq_true];exact h
theorem QE:∀{ds:List D},(∀d∈ds,d.lend=d)→lends ds=ds
 | [],_=>rfl
 | d::ds,h=>by
  have ih:=QE (ds:=ds) fun d hd=>h d (List.mem_cons_of_mem _ hd)
  simp[h d (by simp),ih]
theorem JaB {ds:List D} (h:∀d∈ds,d.nol=true):nols ds=true:=by
 induction ds with
 | nil=>rfl
 | cons d ds ih =>
  show (d.nol && nols ds)=true
  rw[h d (by simp),ih fun x hx=>h x (by simp[hx])];rfl
theorem Jaa:∀ds:List D,lends ds=ds.map D.lend
 | []=>rfl
 | d::ds=>by rw[lends,Jaa ds];rfl
theorem YI:∀{n:Nat} {d:D},pln n d=true→d.imm=true∧d.lend=d
 | 0,_,h=>by simp[pln]at h
 | n+1,d,h=>by
  have hs:∀ds:List D,ds.all (pln n)=true→imms ds=true∧lends ds=ds:=fun ds h =>
   ⟨Uj fun d hd=>(YI (List.all_eq_true.mp h d hd)).1,QE fun d hd=>(YI (List.all_eq_true.mp h d hd)).2⟩
  cases d with
  | tup ds=>simp only[pln,Bool.and_eq_true]at h;have:=hs ds h.2;simp[this]
  | lst g ds=>cases g<;>simp only[pln,Bool.and_eq_true]at h<;>first | (cases h;done) | (have:=hs ds h.2;simp[this])
  | non=>simp
  | bl b=>simp
  | int b=>simp
  | str b=>simp
  | _=>simp[pln]at h
theorem Jc9:∀{n:Nat} {d:D},pln n d=true→pln (n+1) d=true
 | 0,_,h=>by simp[pln]at h
 | n+1,d,h=>by
  cases d with
  | tup ds =>
   simp only[pln,Bool.and_eq_true,List.all_eq_true]at h ⊢
   exact⟨h.1,fun d hd=>Jc9 (h.2 d hd)⟩
  | lst g ds =>
   cases g<;>simp only[pln,Bool.and_eq_true,List.all_eq_true]at h ⊢<;>first | (cases h;done) | exact⟨h.1,fun d hd=>Jc9 (h.2 d hd)⟩
  | non=>rfl
  | bl b=>rfl
  | int b=>rfl
  | str b=>rfl
  | _=>simp[pln]at h
structure Sm (d:D):Prop where
 im:d.imm=true
 no:d.nol=true
 pl:pln 6 d.lend=true
 py:∃y,d.lend.py=some y∧Sh 2000 6 y
 sz:∀ds,UV d.lend=some ds→ds.length≤900
structure Pp (d:D):Prop where
 im:d.imm=true
 no:d.nol=true
 pl:pln 7 d.lend=true
 py:∃y,d.lend.py=some y∧Sh 300000 7 y
 sz:∀ds,UV d.lend=some ds→ds.length≤900
theorem Sm.pp {d:D} (h:Sm d):Pp d:=⟨h.im,h.no,Jc9 h.pl,let ⟨y,e,s⟩:=h.py;⟨y,e,s.l,s.s,Nat.le_trans s.w (by decide),Nat.le_trans s.d (by decide)⟩,h.sz⟩
theorem JdS {w k:Nat}:∀{xs:List D},(∀x∈xs,∃y,x.py=some y∧Sh w k y)→∃ys,pys xs=some ys∧ys.length=xs.length∧∀y∈ys,Sh w k y
 | [],_=>⟨[],rfl,rfl,fun _ z=>nomatch z⟩
 | x::xs,h=>by
  obtain⟨y,e,s⟩:=h x (by simp)
  obtain⟨ys,e2,l,hs⟩:=JdS (xs:=xs) fun x hx=>h x (by simp[hx])
  refine⟨y::ys,by rw[pys,e,e2];rfl,by simp[l],fun z hz=>?_⟩
  rcases List.mem_cons.mp hz with q | q
  ·rw[q];exact s
  ·exact hs z q
theorem Jed {w k n:Nat} {ys:List PyData} (h:∀y∈ys,Sh w k y) (hn:ys.length≤n):Sh ((w+1) * n) (k+1) (.list ys)∧Sh ((w+1) * n) (k+1) (.tuple ys):=by
 obtain⟨a1,a2,a3,a4⟩:=JeJ (f:=id) h
 rw[List.map_id]at a1 a2 a3 a4
 have:(w+1) * ys.length≤(w+1) * n:=Nat.mul_le_mul_left _ hn
 exact⟨⟨by simpa only [PyData.leavesShort] using a1,by simpa only [PyData.showable] using a2,by simp only[PyData.weight];omega,by simp only[PyData.depth];omega⟩,
  ⟨by simpa only [PyData.leavesShort] using a1,by simpa only [PyData.showable] using a2,by simp only[PyData.weight];omega,by simp only[PyData.depth];omega⟩⟩
theorem Sm.seq {xs:List D} (h:∀x∈xs,Sm x) (hl:xs.length≤140):Pp (.lst .f xs)∧Pp (.tup xs):=by
 have im:imms xs=true:=Uj fun d hd=>(h d hd).im
 have no:nols xs=true:=JaB fun d hd=>(h d hd).no
 have al:(lends xs).all (pln 6)=true:=by
  rw[Jaa,List.all_eq_true]
  intro x hx
  obtain⟨y,hy,rfl⟩:=List.mem_map.mp hx
  exact(h y hy).pl
 have ll:(lends xs).length=xs.length:=by rw[Jaa,List.length_map]
 obtain⟨ys,e,l,hs⟩:=JdS (w:=2000) (k:=6) (xs:=lends xs) fun x hx=>by
  rw[Jaa]at hx
  obtain⟨y,hy,rfl⟩:=List.mem_map.mp hx
  exact(h y hy).py
 obtain⟨s1,s2⟩:=Jed hs (n:=140) (by omega)
 have up:∀y:PyData,Sh ((2000+1) * 140) (6+1) y→Sh 300000 7 y:=fun y s=>⟨s.l,s.s,Nat.le_trans s.w (by decide),s.d⟩
 refine⟨⟨by simp[im],by simp[no],?_,⟨.list ys,?_,up _ s1⟩,fun ds h=>by cases h;rw[ll];omega⟩,⟨im,no,?_,⟨.tuple ys,?_,up _ s2⟩,fun ds h=>by cases h;rw[ll];omega⟩⟩
 ·show (decide ((lends xs).length≤1000000) && (lends xs).all (pln 6))=true
  rw[al,ll];simp;omega
 ·show (pys (lends xs)).map _=_
  rw[e];rfl
 ·show (decide ((lends xs).length≤1000000) && (lends xs).all (pln 6))=true
  rw[al,ll];simp;omega
 ·show (pys (lends xs)).map _=_
  rw[e];rfl
theorem Pp.str {d:D} (h:Pp d):∃s,Jcy [d.lend]=some (.str s):=by
 obtain⟨y,e,sh⟩:=h.py
 have hs:y.shown.length≤sizeLine:=by
  have h:=PyData.shown_le 24 (by decide) _ sh.l
  have:=sh.w
  rw[sizeLine_eq];omega
 have ok:shOk y=true:=by
  unfold shOk;rw[sh.s,decide_eq_true hs,decide_eq_true (Nat.le_trans sh.d (by decide))];rfl
 have rp:JaP [d.lend]=some (.str y.shown):=by
  unfold JaP
  simp only[e,ok,if_true]
 have pl:=h.pl
 cases hd:d.lend with
 | non=>exact⟨_,rfl⟩
 | bl b=>exact⟨_,rfl⟩
 | str z=>exact⟨z,rfl⟩
 | int i =>
  rw[hd]at e
  have ey:y=.int i:=(Option.some.inj e).symm
  subst ey
  have hb:i.natAbs.log2 < 1920:=by simpa [PyData.showable] using sh.s
  exact⟨toString i,by show (if i.natAbs.log2 < 1920 then _ else _)=_;rw[if_pos hb]⟩
 | tup ds=>rw[hd]at rp;exact⟨_,rp⟩
 | lst g ds=>rw[hd]at rp;exact⟨_,rp⟩
 | _=>rw[hd]at pl;simp[pln]at pl
theorem Jew {i:Int} (h1:-1000000000000000000≤i) (h2:i≤1000000000000000000):Sh 64 0 (.int i):=by
 have hl:i.natAbs.log2 < 62:=by
  by_cases h0:i.natAbs=0
  ·rw[h0];decide
  ·exact(Nat.log2_lt h0).mpr (by omega)
 refine⟨?_,?_,?_,by simp[PyData.depth]⟩
 ·have e:=int_text_length_le10 (a:=i) (k:=19) (by decide) (by omega)
  have:(PyData.shown (.int i)).length=(toString i).length:=ofString_length _
  simp only[PyData.leavesShort,decide_eq_true_eq]
  omega
 ·simp only[PyData.showable,decide_eq_true_eq];omega
 ·simp only[PyData.weight];split<;>omega
def isW:D→Bool
 | .int _=>true
 | _=>false
def isR (k:Nat):D→Bool
 | .tup ds=>ds.length == k
 | _=>false
def isL:D→Bool
 | .tup _=>true
 | .lst _ _=>true
 | _=>false
def isT:D→Bool
 | .tup _=>true
 | _=>false
def isS:D→Bool
 | .str _=>true
 | _=>false
section
variable {n:Nat} {d:D}
theorem pi_tup (h:pln n d=true):pIsi [d,.ty "tuple"]=some (.bl (isT d)):=by
 cases n with
 | zero=>simp[pln]at h
 | succ n=>cases d<;>first | rfl | (simp[pln]at h)
theorem Jd9 (h:pln n d=true):pIsi [d,.ty "str"]=some (.bl (isS d)):=by
 cases n with
 | zero=>simp[pln]at h
 | succ n=>cases d<;>first | rfl | (simp[pln]at h)
theorem Je3 (h:pln n d=true):pIsi [d,.tup [.ty "list", .ty "tuple"]]=some (.bl (isL d)):=by
 cases n with
 | zero=>simp[pln]at h
 | succ n=>cases d<;>first | rfl | (simp[pln]at h)
theorem JcK (h:pln n d=true):cAnd (cL pIsi (Jb (cVar 0) (Jb (cK (.ty "int")) cNil))) (cNot (cL pIsi (Jb (cVar 0) (Jb (cK (.ty "bool")) cNil)))) [some d]=.ok (.bl (isW d)) [some d]:=by
 cases n with
 | zero=>simp[pln]at h
 | succ n=>cases d<;>first | rfl | (simp[pln]at h)
theorem JdV (h:pln n d=true):∃m,n=m+1:=by
 cases n with
 | zero=>simp[pln]at h
 | succ n=>exact⟨n,rfl⟩
theorem Ja2 {ds:List D} (h:pln n (.tup ds)=true):ds.length≤1000000∧∀x∈ds,pln (n - 1) x=true:=by
 obtain⟨m,rfl⟩:=JdV h
 simp only[pln,Bool.and_eq_true,decide_eq_true_eq,List.all_eq_true]at h
 exact h
theorem pln_lst {g:Fl} {ds:List D} (h:pln n (.lst g ds)=true):g=.l∧ds.length≤1000000∧∀x∈ds,pln (n - 1) x=true:=by
 obtain⟨m,rfl⟩:=JdV h
 cases g<;>simp only[pln,Bool.and_eq_true,decide_eq_true_eq,List.all_eq_true]at h<;>first | (cases h;done) | exact⟨rfl,h⟩
theorem v_is_whole (h:pln n d=true):Yy [d]=.ok (.bl (isW d)) []:=by
 have:=JcK h
 unfold Yy JR JbB
 simp[-Jdt,-Je4,YG,Ue,JK,this]
theorem v_is_row_of (h:pln n d=true) (k:Nat):Yb [d,.int k]=.ok (.bl (isR k d)) []:=by
 have t:=pi_tup h
 unfold Yb JR JaH
 cases d with
 | tup ds =>
  have hz:=(Ja2 h).1
  have hz:ds.length≤sizeLine:=UG hz
  have eb:((ds.length:Int) == (k:Int))=(ds.length == k):=by
   rw[Bool.eq_iff_iff,beq_iff_eq,beq_iff_eq];omega
  simp[YG,Ue,JK,t,isT,isR,hz,eb]
 | _=>simp[YG,Ue,JK,t,isT,isR]
theorem JbQ (h:pln n d=true):Yn [d]=.ok (.bl (isL d)) []:=by
 have t:=Je3 h
 unfold Yn JR JbR
 simp[YG,Ue,JK,t]
end
end VS
namespace VS
open PySem L2 SeqAt
theorem at_any {xs:List D} {r:Int} (h0:0≤r) (h1:r < xs.length):∃x,x∈xs∧atI xs r=some x:=by
 obtain⟨x,hx,_,e⟩:=JaY (f:=id) (xs:=xs) h0 h1
 rw[List.map_id]at e
 exact⟨x,hx,e⟩
def Zx:List D:=[.non,.bl true,.bl false,.int 0,.int (-1),.int 7,.str "", .str "a", .str "nobody", .ftu [],.lst .f [],.tup [.int 0],.tup [.int 0,.int 1],.tup [.int 0,.int 2],.tup [.bl true,.int 1],.tup [.int 0,.bl true],.lst .f [.int 0,.int 1]]
def Zu:List D:=[.tup [.int 0,.int 1,.int 1],.tup [.str "a", .int 0],.lst .f [.str "a", .int 0],.ftu [.tup [.str "a", .int 0]],.lst .f [.lst .f []],.tup [.str "a", .non],.tup [.non,.int 1],.tup [.str "0", .int 1]]
def nr (p:Str × Int):D:=.tup [.str p.1,.int p.2]
theorem Jb9 (p:Str × Int):D.tup []≠nr p:=fun h=>by unfold nr at h;injection h with h;cases h
theorem Jd2 (x:D) (p:Str × Int):D.tup [x]≠nr p:=fun h=>by unfold nr at h;injection h with h;cases h
theorem JeB {x:D} {xs:List D} {rs:List (Str × Int)} (hx:∀p,x≠nr p) (h:D.tup (x::xs)=.tup (rs.map nr)):False:=by
 injection h with h
 cases rs with
 | nil=>cases h
 | cons p rs=>injection h with h _;exact hx p h
mutual
theorem Jao:∀d:D,d.lend.thaw=d.thaw.lend
 | .tup ds=>by show D.tup (thaws (lends ds))=.tup (lends (thaws ds));rw[lends_thaws ds]
 | .ftu ds=>by show D.tup (thaws (lends ds))=.tup (lends (thaws ds));rw[lends_thaws ds]
 | .lst g ds=>by show D.lst g.lend (thaws (lends ds))=.lst g.lend (lends (thaws ds));rw[lends_thaws ds]
 | .non=>rfl
 | .bl _=>rfl
 | .int _=>rfl
 | .str _=>rfl
 | .ty _=>rfl
 | .dct _ _ _=>rfl
 | .obj _ _ _ _=>rfl
 | .exc _ _ _=>rfl
theorem lends_thaws:∀ds:List D,thaws (lends ds)=lends (thaws ds)
 | []=>rfl
 | d::ds=>by show d.lend.thaw::thaws (lends ds)=d.thaw.lend::lends (thaws ds);rw[Jao d,lends_thaws ds]
end
structure Od (d:D):Prop where
 sm:Sm d.thaw
 im:d.imm=true
 no:d.nol=true
 th:∀p,d.lend.thaw=nr p→d.lend=nr p
 ls:∀(rs:List (Str × Int)),d.lend.thaw=.lst .l (rs.map nr)→d.lend=.lst .l (rs.map nr)
 tu:∀(rs:List (Str × Int)),d.lend.thaw=.tup (rs.map nr)→d.lend=.ftu (rs.map nr)
theorem odds_sm:(∀d∈Zx,Od d)∧∀d∈Zu,Od d:=by
 constructor
 ·intro d hd
  simp only[Zx,List.mem_cons,List.mem_nil_iff,or_false]at hd
  rcases hd with rfl | rfl | rfl | rfl | rfl | rfl | rfl | rfl | rfl | rfl | rfl | rfl | rfl | rfl | rfl | rfl | rfl<;>exact⟨⟨rfl,rfl,rfl,⟨_,rfl,by decide +kernel,by decide +kernel,by decide +kernel,by decide +kernel⟩,fun ds h=>by first | (cases h;done) | (cases h;decide)⟩,rfl,rfl,(by first | exact fun p h=>h | (intro p h;exact absurd h (Jb9 p)) | (intro p h;exact absurd h (Jd2 _ p))),(by first | exact fun rs h=>h | exact fun rs h=>(by cases h)),(by first | exact fun rs h=>(by injection h with h;show D.ftu _=_;rw[←h];rfl) | exact fun rs h=>(by cases h) | exact fun rs h=>(JeB (by first | exact(fun p h=>by unfold nr at h;cases h) | exact fun p h=>absurd h (Jb9 p)) h).elim)⟩
 ·intro d hd
  simp only[Zu,List.mem_cons,List.mem_nil_iff,or_false]at hd
  rcases hd with rfl | rfl | rfl | rfl | rfl | rfl | rfl | rfl<;>exact⟨⟨rfl,rfl,rfl,⟨_,rfl,by decide +kernel,by decide +kernel,by decide +kernel,by decide +kernel⟩,fun ds h=>by first | (cases h;done) | (cases h;decide)⟩,rfl,rfl,(by first | exact fun p h=>h | (intro p h;exact absurd h (Jb9 p)) | (intro p h;exact absurd h (Jd2 _ p))),(by first | exact fun rs h=>h | exact fun rs h=>(by cases h)),(by first | exact fun rs h=>(by injection h with h;show D.ftu _=_;rw[←h];rfl) | exact fun rs h=>(by cases h) | exact fun rs h=>(JeB (by first | exact(fun p h=>by unfold nr at h;cases h) | exact fun p h=>absurd h (Jb9 p)) h).elim)⟩
theorem JdZ (t:Tp):∃d t',Ub [tp t]=.ok d [tp t']∧Od d:=by
 obtain⟨s1,s2⟩:=odds_sm
 have sm:∀d∈Zx++Zu,Od d:=fun d hd=>(List.mem_append.mp hd).elim (s1 d) (s2 d)
 have hl:(Zx++Zu).length=25:=rfl
 have e25:=Ya t (m:=25) (by decide) (by decide)
 obtain⟨d,hd,ed⟩:=at_any (xs:=Zx++Zu) (Uf (t:=t) (m:=25) (by decide)) (by rw[hl];exact YE (by decide))
 have hs:=sm d hd
 refine⟨d,drT t 25,?_,hs⟩
 refine Uz (env:=[some (tp (drT t 25)),some (.lst .m (Zx++Zu))]) ⟨rfl,by decide⟩ rfl ?_ rfl
 unfold Ja9
 refine Jy (env1:=[some (tp t),some (.lst .f Zx)]) rfl ?_
 have l1:Zx.length=17:=rfl
 have l2:Zu.length=8:=rfl
 have z:25≤sizeLine:=Yr (by decide)
 have ad:pAdd (.lst .f Zx) (.lst .f Zu)=some (.lst .m (Zx++Zu)):=by
  have i1:imms Zx=true:=rfl
  have i2:imms Zu=true:=rfl
  generalize hA:Zx=A at *
  generalize hB:Zu=B at *
  simp[pAdd,orP2,Jd5,pI,Jb0,i1,i2,l1,l2,z]
 refine Jy (env1:=[some (tp t),some (.lst .m (Zx++Zu))]) ?_ ?_
 ·have e2:∀env:Env,(cFix (cLst (Jb (cTup (Jb (cK (.int 0)) (Jb (cK (.int 1)) (Jb (cK (.int 1)) cNil)))) (Jb (cTup (Jb (cK (.str "a")) (Jb (cK (.int 0)) cNil))) (Jb (cLst (Jb (cK (.str "a")) (Jb (cK (.int 0)) cNil))) (Jb (JbU (Jb (cTup (Jb (cK (.str "a")) (Jb (cK (.int 0)) cNil))) cNil)) (Jb (cLst (Jb (cLst cNil) cNil)) (Jb (cTup (Jb (cK (.str "a")) (Jb (cK .non) cNil))) (Jb (cTup (Jb (cK .non) (Jb (cK (.int 1)) cNil))) (Jb (cTup (Jb (cK (.str "0")) (Jb (cK (.int 1)) cNil))) cNil))))))))))  env=.ok (.lst .f Zu) env:=fun env=>rfl
  simp[-e_fix,e2,ad]
 ·have im:=hs.im
  generalize Zx++Zu=L at *
  have hz:L.length≤sizeLine:=by rw[hl];exact z
  have e25':Je [tp t,.int (L.length:Nat)]=.ok (.int (drV t 25)) [tp (drT t 25)]:=by rw[hl];exact e25
  simp[hz,e25',ed,im]
theorem cut_sub (xs:List D) (a b:Option Int):(cutD xs a b).Sublist xs:=by
 unfold cutD
 exact(List.take_sublist _ _).trans (List.drop_sublist _ _)
def BN (T:Tp) (xs:List D) (d:D) (o3 o4:Option D):Env:=[some (tp T),some (.lst .l xs),some d,o3,o4]
theorem v_bent (t:Tp) {xs:List D} {d:D} (hl:xs.length≤100) (hx:∀x∈xs,x.imm=true∧x.nol=true) (him:d.imm=true) (hno:d.nol=true) :
  ∃ys t',Uo [tp t,.lst .l xs,d]=.ok (.lst .m ys) [tp t',d]∧(∀y∈ys,y∈xs∨y=d)∧ys.length≤3 * xs.length+1:=by
 have hm:(0:Int) < (xs.length:Int)+1:=by omega
 have d1:=Ya t hm (by omega)
 have d2:=Ya (drT t ((xs.length:Int)+1)) (m:=5) (by decide) (by decide)
 have p1:=Uf (t:=t) hm
 have q1:=YE (t:=t) hm
 generalize drV t ((xs.length:Int)+1)=at1 at *
 generalize drT t ((xs.length:Int)+1)=T1 at *
 generalize drV T1 5=way at *
 generalize drT T1 5=T2 at *
 have hz:xs.length≤sizeLine:=UG (by omega)
 have ix:imms xs=true:=Uj fun x h=>(hx x h).1
 have cf:∀a b,imms (cutD xs a b)=true∧(cutD xs a b).length≤xs.length∧(∀y∈cutD xs a b,y∈xs):=fun a b =>
  have s:=cut_sub xs a b
  ⟨Qb s ix,s.length_le,fun y h=>s.subset h⟩
 have nol:∀ys:List D,(∀y∈ys,y∈xs∨y=d)→nols ys=true:=fun ys h=>JaB fun y hy=>(h y hy).elim (fun z=>(hx y z).2) fun z=>by rw[z];exact hno
 obtain⟨a1,a2,a3⟩:=cf none (some at1)
 obtain⟨b1,b2,b3⟩:=cf (some (at1+1)) none
 obtain⟨c1,c2',c3⟩:=cf (some at1) (some (at1+1))
 obtain⟨e1,e2,e3⟩:=cf (some at1) none
 have fin:∀ys:List D,Qj (BN t xs d none none)=.rt (.lst .m ys) (BN T2 xs d (some (.int at1)) (some (.int way)))→(∀y∈ys,y∈xs∨y=d)→ys.length≤3 * xs.length+1 →
   ∃ys t',Uo [tp t,.lst .l xs,d]=.ok (.lst .m ys) [tp t',d]∧(∀y∈ys,y∈xs∨y=d)∧ys.length≤3 * xs.length+1:=fun ys hb h1 h2 =>
  ⟨ys,T2,Uz ⟨rfl,by decide⟩ rfl hb rfl,h1,h2⟩
 have pre:∀k:CS,(sSeq (sAsg (Jo Je (aOw (cMv 0) (some 0) (aRo (c2 pAdd (cL pLen (Jb (cVar 1) cNil)) (cK (.int 1))) aNil))) (gSet 3)) (sSeq (sAsg (Jo Je (aOw (cMv 0) (some 0) (aRo (cK (.int 5)) aNil))) (gSet 4)) k)) (BN t xs d none none)=k (BN T2 xs d (some (.int at1)) (some (.int way))):=fun k=>by
  unfold BN;simp[d1,d2,hz]
 have zz:∀n:Nat,n≤1000→n≤sizeLine:=fun n h=>UG (by omega)
 have g1:-18446744073709551616 < at1:=by omega
 have g2:at1 < 18446744073709551616:=by omega
 unfold Qj at fin
 simp only[pre]at fin
 generalize hA:cutD xs none (some at1)=A at *
 generalize hB:cutD xs (some (at1+1)) none=B at *
 generalize hC:cutD xs (some at1) (some (at1+1))=C at *
 generalize hE:cutD xs (some at1) none=E at *
 have i2:imms [d]=true:=by show (d.imm && true)=true;rw[him];rfl
 have iap:∀X Y:List D,imms X=true→imms Y=true→imms (X++Y)=true:=fun X Y h1 h2=>Uj fun x hx=>(List.mem_append.mp hx).elim (fun z=>List.all_eq_true.mp (by rw[←Qg];exact h1) x z) fun z=>List.all_eq_true.mp (by rw[←Qg];exact h2) x z
 have ac:=iap A C a1 c1
 have ad:=iap A [d] a1 i2
 by_cases w0:way=0
 ·refine fin (A++B) ?_ (fun y hy=>(List.mem_append.mp hy).elim (fun z=>.inl (a3 y z)) fun z=>.inl (b3 y z)) (by simp;omega)
  have z1:A.length+B.length≤sizeLine:=zz _ (by omega)
  unfold BN
  simp[w0,hA,hB,ix,a1,b1,z1]
 ·by_cases w1:way=1
  ·refine fin (A++C++E) ?_ (fun y hy=>(List.mem_append.mp hy).elim (fun z=>(List.mem_append.mp z).elim (fun z=>.inl (a3 y z)) fun z=>.inl (c3 y z)) fun z=>.inl (e3 y z)) (by simp;omega)
   have z1:A.length+C.length≤sizeLine:=zz _ (by omega)
   have z2:A.length+C.length+E.length≤sizeLine:=zz _ (by omega)
   unfold BN
   simp[w1,hA,hC,hE,ix,a1,c1,e1,z1,z2,ac,-List.append_assoc]
  ·by_cases w2:way=2
   ·refine fin (A++[d]++B) ?_ (fun y hy=>(List.mem_append.mp hy).elim (fun z=>(List.mem_append.mp z).elim (fun z=>.inl (a3 y z)) fun z=>.inr (List.mem_singleton.mp z)) fun z=>.inl (b3 y z)) (by simp;omega)
    have z1:A.length+1≤sizeLine:=zz _ (by omega)
    have z2:A.length+1+B.length≤sizeLine:=zz _ (by omega)
    unfold BN
    simp[w2,hA,hB,ix,him,hno,a1,b1,z1,z2,ad,-List.append_assoc]
   ·refine fin (A++[d]++E) ?_ (fun y hy=>(List.mem_append.mp hy).elim (fun z=>(List.mem_append.mp z).elim (fun z=>.inl (a3 y z)) fun z=>.inr (List.mem_singleton.mp z)) fun z=>.inl (e3 y z)) (by simp;omega)
    have z1:A.length+1≤sizeLine:=zz _ (by omega)
    have z2:A.length+1+E.length≤sizeLine:=zz _ (by omega)
    unfold BN
    simp[w0,w1,w2,hA,hE,ix,him,hno,a1,e1,z1,z2,ad,-List.append_assoc]
end VS
namespace VS
open PySem L2 SeqAt
def dN (g:Fl) (td:List Str) (o:Str→Int):D:=.dct g (td.map Sum.inr) (td.map fun m=>D.int (o m))
def upI (r:Str→Int) (n:Str) (x:Int):Str→Int:=fun m=>if m=n then x else r m
theorem YD:∀{xs ys:List Str},xs.Nodup→(∀x∈xs,x∈ys)→xs.length≤ys.length
 | [],_,_,_=>by simp
 | x::xs,ys,h,hs=>by
  have hx:x∈ys:=hs x (by simp)
  have nd:=List.nodup_cons.mp h
  have ih:=YD (ys:=ys.erase x) nd.2 fun y hy=>(List.mem_erase_of_ne (fun (e:y=x)=>nd.1 (e ▸ hy))).mpr (hs y (by simp[hy]))
  rw[List.length_erase_of_mem hx]at ih
  have:0 < ys.length:=List.length_pos_of_mem hx
  simp only[List.length_cons];omega
theorem JbF {ct:CT} {a b:CS} {env env1:Env} {o:O} (h:ct env=.ok true env1) (h2:a env1=o):sIf ct a b env=o:=by
 simp[h,h2]
theorem Jby {ct:CT} {a b:CS} {env env1:Env} {o:O} (h:ct env=.ok false env1) (h2:b env1=o):sIf ct a b env=o:=by
 simp[h,h2]
theorem JdD {α:Type} {f:α→D} {g:D→Env→Option Env} {body:CS} (P:List α→Env→Prop) (Q:D→Env→Prop) (h:∀x xs env,P (x::xs) env→∃env1,g (f x) env=some env1∧((∃env2,body env1=.nx env2∧P xs env2)∨(∃r env2,body env1=.rt r env2∧Q r env2))) :
  ∀(xs:List α) (env:Env),P xs env→(∃env',YJ g body (xs.map f) env=.nx env'∧P [] env')∨(∃r env',YJ g body (xs.map f) env=.rt r env'∧Q r env')
 | [],env,h0=>.inl ⟨env,rfl,h0⟩
 | x::xs,env,h0=>by
  obtain⟨env1,h1,h2⟩:=h x xs env h0
  rcases h2 with ⟨env2,b,p⟩ | ⟨r,env2,b,q⟩
  ·rcases JdD P Q h xs env2 p with ⟨env',k1,k2⟩ | ⟨r,env',k1,k2⟩
   ·exact .inl ⟨env',(Jdd h1 b).trans k1,k2⟩
   ·exact .inr ⟨r,env',(Jdd h1 b).trans k1,k2⟩
  ·exact .inr ⟨r,env2,for_rt h1 b,q⟩
theorem v_cnt {t:Int} (h0:0≤t) (h1:t≤1000) (n:Int):Uh [.int t,.int n]=.ok (.int (cnt t n)) []:=by
 unfold Uh JR Jb4 cnt
 by_cases h:t=0
 ·subst h;simp[YG,Ue,JK]
 ·have h2:0 < t:=by omega
  have h3:t < 18446744073709551616:=by omega
  simp[YG,Ue,JK,h,h2,h3]
theorem v_lcnt {t:Int} (h0:0≤t) (h1:t≤1000) (n:Int):JX [.int t,.int n]=.ok (.int (cnt t n)) []:=by
 unfold JX JR Qa cnt
 by_cases h:t=0
 ·subst h;simp[YG,Ue,JK]
 ·have h2:0 < t:=by omega
  have h3:t < 18446744073709551616:=by omega
  have h4:-18446744073709551616 < t:=by omega
  have e:n - n / t * t=n % t:=by rw[Int.mul_comm,Int.emod_def]
  simp[YG,Ue,JK,h,h2,h3,h4,e]
end VS
namespace VS
open PySem L2 SeqAt
def rowD (r:List Str):D:=.lst .m (r.map D.str)
def addP (f:Str→Str) (ps:List (Str × List Str)) (n:Str):List (Str × List Str) :=
 if ps.any (fun p=>decide (f p.1=f n)) then ps.map fun p=>if f p.1=f n then (p.1,p.2++[n]) else p else ps++[(n,[n])]
structure RowI (f:Str→Str) (ps:List (Str × List Str)) (done:List Str):Prop where
 nd:(ps.map fun p=>f p.1).Nodup
 hd:∀p∈ps,p.1∈done
 len:ps.length≤done.length
 row:∀p∈ps,p.2=done.filter fun m=>decide (f m=f p.1)
 cov:∀m∈done,∃p∈ps,f p.1=f m
theorem RowI.add {f:Str→Str} {ps:List (Str × List Str)} {done:List Str} (w:RowI f ps done) (n:Str):RowI f (addP f ps n) (done++[n]):=by
 unfold addP
 by_cases h:ps.any (fun p=>decide (f p.1=f n))=true
 ·rw[if_pos h]
  obtain⟨p0,hp0,e0⟩:=List.any_eq_true.mp h
  simp only[decide_eq_true_eq]at e0
  have hk:∀p:Str × List Str,(if f p.1=f n then (p.1,p.2++[n]) else p).1=p.1:=fun p=>by split<;>rfl
  refine⟨?_,fun q hq=>?_,by simp;have:=w.len;omega,fun q hq=>?_,fun m hm=>?_⟩
  ·rw[List.map_map]
   have:((fun p:Str × List Str=>f p.1)∘fun p=>if f p.1=f n then (p.1,p.2++[n]) else p)=fun p=>f p.1:=by funext p;simp only[Function.comp];rw[hk]
   rw[this];exact w.nd
  ·obtain⟨p,hp,rfl⟩:=List.mem_map.mp hq
   rw[hk];exact List.mem_append_left _ (w.hd p hp)
  ·obtain⟨p,hp,rfl⟩:=List.mem_map.mp hq
   rw[hk,List.filter_append,←w.row p hp]
   by_cases e:f p.1=f n
   ·simp[e]
   ·have e':¬ f n=f p.1:=fun z=>e z.symm
    simp[e,e']
  ·rcases List.mem_append.mp hm with hm | hm
   ·obtain⟨p,hp,e⟩:=w.cov m hm
    exact⟨_,List.mem_map.mpr ⟨p,hp,rfl⟩,by rw[hk];exact e⟩
   ·simp at hm;subst hm
    exact⟨_,List.mem_map.mpr ⟨p0,hp0,rfl⟩,by rw[hk];exact e0⟩
 ·rw[if_neg h]
  have hn:∀p∈ps,f p.1≠f n:=fun p hp e=>h (List.any_eq_true.mpr ⟨p,hp,by simpa using e⟩)
  refine⟨?_,fun q hq=>?_,by simp;exact w.len,fun q hq=>?_,fun m hm=>?_⟩
  ·rw[List.map_append,List.nodup_append]
   refine⟨w.nd,by simp,fun a ha b hb=>?_⟩
   obtain⟨p,hp,rfl⟩:=List.mem_map.mp ha
   simp at hb;subst hb;exact hn p hp
  ·rcases List.mem_append.mp hq with hq | hq
   ·exact List.mem_append_left _ (w.hd q hq)
   ·simp at hq;subst hq;simp
  ·rcases List.mem_append.mp hq with hq | hq
   ·have e':¬ f n=f q.1:=fun z=>hn q hq z.symm
    rw[List.filter_append,←w.row q hq];simp[e']
   ·simp at hq;subst hq
    have:done.filter (fun m=>decide (f m=f n))=[]:=by
     rw[List.filter_eq_nil_iff]
     intro m hm
     obtain⟨p,hp,e⟩:=w.cov m hm
     simp;exact fun z=>hn p hp (e.trans z)
    rw[List.filter_append,this];simp
  ·rcases List.mem_append.mp hm with hm | hm
   ·obtain⟨p,hp,e⟩:=w.cov m hm
    exact⟨p,List.mem_append_left _ hp,e⟩
   ·simp at hm;subst hm
    exact⟨(m,[m]),by simp,rfl⟩
theorem RowI.fold {f:Str→Str}:∀(xs:List Str) {ps:List (Str × List Str)} {done:List Str},RowI f ps done→RowI f (xs.foldl (addP f) ps) (done++xs)
 | [],_,_,w=>by simpa using w
 | x::xs,ps,done,w=>by
  have:=RowI.fold xs (w.add x)
  simpa using this
theorem JeM (r:List Str):(rowD r).py=some (.list (r.map PyData.str)):=by
 simp[rowD,D.py,Jbg]
theorem Qy:∀r q:List Str,PySem.W.alikeAll (r.map PyData.str) (q.map PyData.str)=true
 | [],_=>by simp[PySem.W.alikeAll]
 | _::_,[]=>by simp[PySem.W.alikeAll]
 | a::r,b::q=>by simp[PySem.W.alikeAll,PySem.W.alike,Qy r q]
theorem Jcv:∀ps:List (List Str),pys (ps.map rowD)=some (ps.map fun r=>.list (r.map PyData.str))
 | []=>rfl
 | r::ps=>by simp[pys,JeM,Jcv ps]
end VS
namespace VS
open PySem L2 SeqAt
theorem Qv:∀r:List Str,PyData.depthAll (r.map PyData.str)≤1
 | []=>by simp[PyData.depthAll]
 | a::r=>by
  have:=Qv r
  simp[PyData.depthAll,PyData.depth];omega
theorem depth_row (r:List Str):(PyData.list (r.map PyData.str)).depth≤2:=by
 have:=Qv r
 simp only[PyData.depth];omega
theorem sortOk_rows {rs:List (List Str)} (h:rs.length≤1000000):ZI (rs.map rowD)=true:=by
 have hp:∀r:List Str,pyO (rowD r)=.list (r.map PyData.str):=fun r=>by simp[pyO,JeM]
 unfold ZI
 simp only[Bool.and_eq_true]
 refine⟨⟨⟨⟨by rw[Jcv];rfl,?_⟩,?_⟩,?_⟩,by simpa using UG h⟩
 ·unfold Jav
  rw[List.all_eq_true];intro d hd
  rw[List.all_eq_true];intro e he
  obtain⟨r,_,rfl⟩:=List.mem_map.mp hd
  obtain⟨q,_,rfl⟩:=List.mem_map.mp he
  rw[hp,hp];simp[PySem.W.alike,Qy]
 ·unfold Zy
  rw[Bool.or_eq_true];right
  rw[List.all_eq_true];intro d hd
  obtain⟨r,_,rfl⟩:=List.mem_map.mp hd
  rw[hp]
 ·unfold Qm
  rw[List.all_eq_true];intro d hd
  obtain⟨r,_,rfl⟩:=List.mem_map.mp hd
  rw[hp,decide_eq_true_eq];have:=depth_row r;omega
def leR (a b:List Str):Bool:=leD (rowD a) (rowD b)
def JdE (rs:List (List Str)):List (List Str):=rs.mergeSort leR
theorem QK (rs:List (List Str)):(JdE rs).Perm rs:=List.mergeSort_perm _ _
theorem sort_rows (rs:List (List Str)):(rs.map rowD).mergeSort leD=(JdE rs).map rowD:=by
 unfold JdE
 rw[List.map_mergeSort (f:=rowD) (r:=leR) (s:=leD) fun a _ b _=>rfl]
theorem Jb6 (rs:List (List Str)):nols (rs.map rowD)=true:=QT (fun p=>by simp[rowD]) _
end VS
namespace VS
open PySem L2 SeqAt
theorem leS_eq:leS=PySem.W.sortLe (PyProof.Rows.listOrd PyProof.Rows.itemOrd) false (fun s:Str=>PySem.W.keyToks (.str s)):=rfl
theorem leS_tot:PySem.W.TotalLe leS:=by rw[leS_eq];exact PySem.W.sortLe_total _ _ _
end VS
namespace VS
open PySem L2 SeqAt
theorem leS_cps (a b:Str):leS a b=decide (a.cps.toList≤b.cps.toList):=by
 have h:=PySem.W.dataLe_str (fun s:Str=>s)
 have e:leS=PySem.W.dataLe false (fun s:Str=>.str s):=rfl
 rw[e,h]
theorem leS_anti {a b:Str} (h1:leS a b=true) (h2:leS b a=true):a=b:=by
 rw[leS_cps,decide_eq_true_eq]at h1 h2
 have e:a.cps.toList=b.cps.toList:=List.le_antisymm h1 h2
 cases a;cases b
 simp at e ⊢
 exact e
theorem JcN (ns:List Str):(Yq ns).Pairwise fun a b=>leS a b=true:=List.pairwise_mergeSort leS_tot.trans (fun a b=>Bool.or_eq_true_iff.mpr (leS_tot.total a b)) ns
end VS
namespace VS
open PySem L2 SeqAt
theorem sortS_eq {as bs:List Str} (h:as.Perm bs):Yq as=Yq bs :=
 List.Perm.eq_of_pairwise (le:=fun a b=>leS a b=true) (fun a b _ _ h1 h2=>leS_anti h1 h2) (JcN _) (JcN _) ((YN _).trans (h.trans (YN _).symm))
structure Part (ns:List Str) (js:List Jn) (gs:List (List Str)):Prop where
 nd:gs.flatten.Nodup
 ne:∀g∈gs,g≠[]
 mem:∀m,m∈gs.flatten↔m∈ns
 eqv:∀g∈gs,∀a∈g,∀b,b∈g↔Conn js a b
def cl (gs:List (List Str)):List (List Str):=JdE (gs.map Yq)
theorem Jen (gs:List (List Str)):(cl gs).length=gs.length:=by unfold cl;rw[(QK _).length_eq,List.length_map]
theorem Part.one {ns:List Str} {js:List Jn} {gs:List (List Str)} (w:Part ns js gs):gs.Nodup:=by
 have h:=List.pairwise_flatten.mp (List.pairwise_flatten.mpr (List.pairwise_flatten.mp w.nd))
 refine List.Pairwise.imp_of_mem (R:=fun l₁ l₂=>∀x∈l₁,∀y∈l₂,x≠y) (fun {a b} ha hb hab=>?_) h.2
 rintro rfl
 cases a with
 | nil=>exact w.ne _ ha rfl
 | cons x xs=>exact hab x (by simp) x (by simp) rfl
theorem Part.sorted {ns:List Str} {js:List Jn} {gs:List (List Str)} (w:Part ns js gs):(gs.map Yq).Nodup:=by
 have h:=w.one
 refine List.pairwise_map.mpr (List.Pairwise.imp_of_mem (R:=fun a b=>a≠b) (fun {a b} ha hb hab e=>?_) h)
 have hp:a.Perm b:=((YN a).symm.trans (by rw[e])).trans (YN b)
 obtain⟨x,hx⟩:∃x,x∈a:=by
  cases a with
  | nil=>exact absurd rfl (w.ne _ ha)
  | cons x xs=>exact⟨x,by simp⟩
 have h2:=(List.pairwise_flatten.mp w.nd).2
 have key:∀l:List (List Str),l.Pairwise (fun l₁ l₂=>∀x∈l₁,∀y∈l₂,x≠y)→a∈l→b∈l→a=b:=by
  intro l hl ha hb
  induction l with
  | nil=>cases ha
  | cons q qs ih =>
   obtain⟨q1,q2⟩:=List.pairwise_cons.mp hl
   rcases List.mem_cons.mp ha with z | z<;>rcases List.mem_cons.mp hb with y | y
   ·rw[z,y]
   ·exact absurd rfl (q1 b y x (z ▸ hx) x (hp.mem_iff.mp hx))
   ·exact absurd rfl (q1 a z x (y ▸ hp.mem_iff.mp hx) x hx)
   ·exact ih q2 z y
 exact hab (key gs h2 ha hb)
end VS
namespace VS
open PySem L2 SeqAt
theorem Part.same {ns:List Str} {js:List Jn} {gs:List (List Str)} (w:Part ns js gs) {g g':List Str} {x:Str} (hg:g∈gs) (hg':g'∈gs) (hx:x∈g) (hx':x∈g'):g=g':=by
 have h2:=(List.pairwise_flatten.mp w.nd).2
 clear w
 induction gs with
 | nil=>cases hg
 | cons q qs ih =>
  obtain⟨q1,q2⟩:=List.pairwise_cons.mp h2
  rcases List.mem_cons.mp hg with z | z<;>rcases List.mem_cons.mp hg' with y | y
  ·rw[z,y]
  ·subst z;exact absurd rfl (q1 g' y x hx x hx')
  ·subst y;exact absurd rfl (q1 g z x hx' x hx)
  ·exact ih z y q2
theorem Part.find {ns:List Str} {js:List Jn} {gs:List (List Str)} (w:Part ns js gs) {a:Str} (ha:a∈ns):∃g,g∈gs∧a∈g∧(gs.filter fun g=>decide (a∈g))=[g]:=by
 obtain⟨g,hg,hag⟩:=List.mem_flatten.mp ((w.mem a).mpr ha)
 refine⟨g,hg,hag,List.perm_singleton.mp ((List.perm_ext_iff_of_nodup (w.one.filter _) (by simp)).mpr fun q=>?_)⟩
 simp only[List.mem_filter,decide_eq_true_eq,List.mem_singleton]
 exact⟨fun h=>w.same h.1 hg h.2 hag,fun h=>by subst h;exact⟨hg,hag⟩⟩
theorem Part.keep {ns:List Str} {js:List Jn} {gs:List (List Str)} (w:Part ns js gs) {g:List Str} {a b:Str} {s:Int} (hg:g∈gs) (ha:a∈g) (hb:b∈g):Part ns (js++[(a,b,s)]) gs where
 nd:=w.nd
 ne:=w.ne
 mem:=w.mem
 eqv:=fun q hq x hx y=>by
  rw[w.eqv q hq x hx,JbY]
  have hab:Conn js a b:=(w.eqv g hg a ha b).mp hb
  exact⟨.inl,fun h=>by
   rcases h with h | ⟨h,h'⟩ | ⟨h,h'⟩
   ·exact h
   ·exact(h.trans hab).trans h'
   ·exact(h.trans hab.symm).trans h'⟩
def Jbr (gs:List (List Str)) (g1 g2:List Str):List (List Str):=(gs.filter fun g=>decide (g≠g1) && decide (g≠g2))++[g1++g2]
theorem Part.join {ns:List Str} {js:List Jn} {gs:List (List Str)} (w:Part ns js gs) {g1 g2:List Str} {a b:Str} {s:Int} (h1:g1∈gs) (h2:g2∈gs) (ha:a∈g1) (hb:b∈g2) (hne:g1≠g2):Part ns (js++[(a,b,s)]) (Jbr gs g1 g2):=by
 have hp:gs.Perm ((gs.filter fun g=>decide (g≠g1) && decide (g≠g2))++[g1,g2]):=by
  refine (List.perm_ext_iff_of_nodup w.one ?_).mpr fun x=>?_
  ·refine List.nodup_append.mpr ⟨w.one.filter _,by simp[hne],fun x hx y hy e=>?_⟩
   subst e
   have:=(List.mem_filter.mp hx).2
   simp at this hy
   rcases hy with e | e
   ·exact this.1 e
   ·exact this.2 e
  ·simp only[List.mem_append,List.mem_filter,List.mem_cons,List.not_mem_nil,or_false,Bool.and_eq_true,decide_eq_true_eq]
   constructor
   ·intro hx
    by_cases e1:x=g1
    ·exact .inr (.inl e1)
    ·by_cases e2:x=g2
     ·exact .inr (.inr e2)
     ·exact .inl ⟨hx,e1,e2⟩
   ·rintro (h | h | h)
    ·exact h.1
    ·exact h ▸ h1
    ·exact h ▸ h2
 have hf:(Jbr gs g1 g2).flatten=((gs.filter fun g=>decide (g≠g1) && decide (g≠g2))++[g1,g2]).flatten:=by
  unfold Jbr;simp
 have hpf:(Jbr gs g1 g2).flatten.Perm gs.flatten:=by rw[hf];exact hp.symm.flatten
 have nin:∀{q:List Str} {x c:Str} {g:List Str},q∈gs→g∈gs→x∈q→c∈g→q≠g→¬ Conn js x c:=fun hq hg hx hc hn h =>
  hn (w.same hq hg ((w.eqv _ hq _ hx _).mpr h) hc)
 constructor
 ·exact hpf.nodup_iff.mpr w.nd
 ·intro g hg
  rcases List.mem_append.mp hg with h | h
  ·exact w.ne g (List.mem_filter.mp h).1
  ·simp at h;subst h
   have:=w.ne g1 h1
   simp[this]
 ·exact fun m=>(hpf.mem_iff).trans (w.mem m)
 ·intro g hg x hx y
  rw[JbY]
  rcases List.mem_append.mp hg with h | h
  ·obtain⟨hq,hq2⟩:=List.mem_filter.mp h
   simp only[Bool.and_eq_true,decide_eq_true_eq]at hq2
   rw[w.eqv g hq x hx]
   exact⟨.inl,fun z=>by
    rcases z with z | ⟨z,_⟩ | ⟨z,_⟩
    ·exact z
    ·exact absurd z (nin hq h1 hx ha hq2.1)
    ·exact absurd z (nin hq h2 hx hb hq2.2)⟩
  ·simp only[List.mem_singleton]at h;subst h
   rw[List.mem_append]
   rcases List.mem_append.mp hx with hx | hx
   ·have xa:Conn js x a:=(w.eqv _ h1 x hx a).mp ha
    rw[w.eqv _ h1 x hx,w.eqv _ h2 b hb]
    exact⟨fun z=>z.elim .inl fun z=>.inr (.inl ⟨xa,z⟩),fun z=>by
     rcases z with z | ⟨_,z⟩ | ⟨z,_⟩
     ·exact .inl z
     ·exact .inr z
     ·exact absurd z (nin h1 h2 hx hb hne)⟩
   ·have xb:Conn js x b:=(w.eqv _ h2 x hx b).mp hb
    rw[w.eqv _ h1 a ha,w.eqv _ h2 x hx]
    exact⟨fun z=>z.elim (fun z=>.inr (.inr ⟨xb,z⟩)) .inl,fun z=>by
     rcases z with z | ⟨z,_⟩ | ⟨_,z⟩
     ·exact .inr z
     ·exact absurd z (nin h2 h1 hx ha (Ne.symm hne))
     ·exact .inl z⟩
theorem Part.start {ns:List Str} (nd:ns.Nodup):Part ns [] (ns.map fun n=>[n]) where
 nd:=by
  have:(ns.map fun n=>[n]).flatten=ns:=by induction ns with
   | nil=>rfl
   | cons a as ih=>simp[ih (List.nodup_cons.mp nd).2]
  rw[this];exact nd
 ne:=fun g hg=>by obtain⟨x,_,rfl⟩:=List.mem_map.mp hg;simp
 mem:=fun m=>by
  simp only[List.mem_flatten,List.mem_map]
  exact⟨fun ⟨l,⟨a,ha,e⟩,h⟩=>by subst e;simp at h;exact h ▸ ha,fun h=>⟨[m],⟨m,h,rfl⟩,by simp⟩⟩
 eqv:=fun g hg a ha b=>by
  obtain⟨x,_,rfl⟩:=List.mem_map.mp hg
  simp only[List.mem_singleton]at ha ⊢
  subst ha
  refine⟨fun e=>e ▸ Conn.refl _,fun ⟨o,r⟩=>?_⟩
  have:∀{x y:Str} {o:Int},Reach [] x y o→y=x:=fun r=>by
   induction r with
   | refl=>rfl
   | fwd _ m _=>cases m
   | bwd _ m _=>cases m
  exact this r
def fR (g:List Str):D:=.lst .f (g.map D.str)
theorem YQ:∀(n:Nat) (g:List Str),eqOks n (g.map D.str)=true
 | n,[]=>by cases n<;>rfl
 | n,a::as=>by
  have:eqOk n (.str a)=true:=by cases n<;>rfl
  rw[List.map_cons]
  unfold eqOks
  rw[this,YQ n as];rfl
theorem QC:∀g h:List Str,pyEqs (g.map D.str) (h.map D.str)=decide (g=h)
 | [],[]=>rfl
 | [],_::_=>rfl
 | _::_,[]=>rfl
 | a::as,b::bs=>by
  rw[List.map_cons,List.map_cons]
  unfold pyEqs
  rw[QC as bs]
  unfold pyEq
  by_cases h:a=b
  ·subst h;simp
  ·simp[h]
theorem fR_in (a:Str) (g:List Str):pInW (.str a) (fR g)=some (.bl (decide (a∈g))):=by
 have h1:pInS (.str a) (fR g)=none:=rfl
 have h2:eqOks 40 (g.map D.str)=true:=YQ 40 g
 have h3:eqOk 40 (.str a)=true:=rfl
 have h4:((g.map D.str).any fun d=>pyEq d (.str a))=decide (a∈g):=by
  rw[Bool.eq_iff_iff,List.any_eq_true,decide_eq_true_eq]
  constructor
  ·rintro ⟨d,hd,e⟩
   obtain⟨x,hx,rfl⟩:=List.mem_map.mp hd
   unfold pyEq at e
   have:x=a:=by simpa using e
   exact this ▸ hx
  ·intro h
   exact⟨_,List.mem_map.mpr ⟨a,h,rfl⟩,by unfold pyEq;simp⟩
 show (match pInS (.str a) (fR g) with | some d=>some d | none=>pIn (.str a) (fR g))=_
 rw[h1]
 show (inB (.str a) (.lst .f (g.map D.str))).map D.bl=_
 have h5:inB (.str a) (.lst .f (g.map D.str))=some ((g.map D.str).any fun d=>pyEq d (.str a)):=by
  show (if (eqOk 40 (.str a) && eqOks 40 (g.map D.str))=true then _ else none)=_
  rw[h2,h3];rfl
 rw[h5,h4];rfl
theorem Jd6 (g h:List Str):pNe (fR g) (fR h)=some (.bl (decide (g≠h))):=by
 have e1:eqOk 40 (fR g)=true:=YQ 39 g
 have e2:eqOk 40 (fR h)=true:=YQ 39 h
 have e3:pyEq (fR g) (fR h)=decide (g=h):=QC g h
 unfold pNe;rw[e1,e2,e3]
 by_cases z:g=h<;>simp[z]
end VS
namespace VS
open PySem L2 SeqAt
@[simp] theorem imm_fR (g:List Str):(fR g).imm=true:=by
 have:imms (g.map D.str)=true:=Ut (fun _=>rfl) _
 unfold fR;simp[this]
@[simp] theorem Jds (gs:List (List Str)):imms (gs.map fR)=true:=Ut imm_fR _
@[simp] theorem fix_fR (g:List Str):(fR g).fix=fR g:=by
 have:fixs (g.map D.str)=g.map D.str:=UP (fun _=>rfl) _
 unfold fR;simp[this]
@[simp] theorem fixs_fR (gs:List (List Str)):fixs (gs.map fR)=gs.map fR:=UP fix_fR _
theorem fix_row (g:List Str):(rowD g).fix=fR g:=by
 have:fixs (g.map D.str)=g.map D.str:=UP (fun _=>rfl) _
 unfold rowD fR
 rw[Jcx,this]
theorem Jb3 (gs:List (List Str)):fixs (gs.map rowD)=gs.map fR:=by
 induction gs with
 | nil=>rfl
 | cons g gs ih=>rw[List.map_cons,Jb1,fix_row,ih];rfl
def LC (ns:List Str) (js:List Jn) (gs:List (List Str)) (o4 o5 o6 o7 o8 o9:Option D):Env:=[some (.lst .l (ns.map D.str)),some (.lst .l (js.map jt)),some (.lst .f (gs.map fR)),none,o4,o5,o6,o7,o8,o9]
section
variable {ns:List Str} {js done:List Jn} {gs:List (List Str)}
theorem JcC (w:Part ns done gs) {a:Str} (ha:a∈ns) (hl:gs.length≤1000) (v:Nat) (o4 o5 o6 o7 o8:Option D) (hv:(v=4∧o4=some (.str a))∨(v=5∧o5=some (.str a))) :
  ∃g,g∈gs∧a∈g∧cImm (cIdx (cLc (JI (cVar 2)) [9] (gSet 9) (cTt (c2 pInW (cVar v) (cVar 9))) (cGet 9)) (cK (.int 0))) (LC ns js gs o4 o5 o6 o7 o8 none)=.ok (fR g) (LC ns js gs o4 o5 o6 o7 o8 none):=by
 obtain⟨g,hg,hag,hf⟩:=w.find ha
 refine⟨g,hg,hag,?_⟩
 have hc:=Jcc (f:=fR) (vs:=[9]) (g:=gSet 9) (ct:=cTt (c2 pInW (cVar v) (cVar 9))) (ce:=cGet 9) (env:=LC ns js gs o4 o5 o6 o7 o8 none) (y:=fR) (t:=fun g=>decide (a∈g)) (xs:=gs) (by
  intro q _
  refine⟨LC ns js gs o4 o5 o6 o7 o8 (some (fR q)),rfl,rfl,?_,fun _=>by simp[LC],rfl⟩
  rcases hv with ⟨rfl,rfl⟩ | ⟨rfl,rfl⟩<;>simp[LC,fR_in])
 rw[hf]at hc
 have hz:gs.length≤sizeLine:=Yr (by omega)
 have a0:atI [fR g] 0=some (fR g):=rfl
 unfold LC at hc ⊢
 simp only[List.map_cons,List.map_nil]at hc
 simp[hc,hz,a0]
theorem lcl_join (g1 g2:List Str) (hl:gs.length≤1000) (hz1:g1.length+g2.length≤100000) (o4 o5 o6:Option D) :
  (sAsg (cFix (c2 pAdd (cLc (JI (cVar 2)) [9] (gSet 9) (ZY (cTt (c2 pNe (cVar 9) (cVar 7))) (cTt (c2 pNe (cVar 9) (cVar 8)))) (cGet 9)) (cLst (Jb (cFix (c2 pAdd (cVar 7) (cVar 8))) cNil)))) (gSet 2)) (LC ns js gs o4 o5 o6 (some (fR g1)) (some (fR g2)) none)=.nx (LC ns js (Jbr gs g1 g2) o4 o5 o6 (some (fR g1)) (some (fR g2)) none):=by
 have hc:=Jcc (f:=fR) (vs:=[9]) (g:=gSet 9) (ct:=ZY (cTt (c2 pNe (cVar 9) (cVar 7))) (cTt (c2 pNe (cVar 9) (cVar 8)))) (ce:=cGet 9) (env:=LC ns js gs o4 o5 o6 (some (fR g1)) (some (fR g2)) none) (y:=fR) (t:=fun g=>decide (g≠g1) && decide (g≠g2)) (xs:=gs) (by
  intro q _
  refine⟨LC ns js gs o4 o5 o6 (some (fR g1)) (some (fR g2)) (some (fR q)),rfl,rfl,?_,fun _=>by simp[LC],rfl⟩
  by_cases h1:q=g1
  ·simp[LC,Jd6,h1]
  ·simp[LC,Jd6,h1])
 have hz:gs.length≤sizeLine:=Yr (by omega)
 have hfl:(gs.filter fun g=>decide (g≠g1) && decide (g≠g2)).length≤gs.length:=List.length_filter_le _ _
 have hz2:(gs.filter fun g=>decide (g≠g1) && decide (g≠g2)).length≤sizeLine:=Yr (by omega)
 have hz3:(gs.filter fun g=>decide (g≠g1) && decide (g≠g2)).length+1≤sizeLine:=UG (by omega)
 have hz4:g1.length+g2.length≤sizeLine:=UG (by omega)
 have ad:pAdd (fR g1) (fR g2)=some (.lst .m ((g1++g2).map D.str)):=by
  have i1:imms (g1.map D.str)=true:=Ut (fun _=>rfl) _
  have i2:imms (g2.map D.str)=true:=Ut (fun _=>rfl) _
  unfold fR
  simp[i1,i2,hz4]
 have fx:(D.lst .m ((g1++g2).map D.str)).fix=fR (g1++g2):=by
  have:fixs ((g1++g2).map D.str)=(g1++g2).map D.str:=UP (fun _=>rfl) _
  unfold fR;simp only[Jcx,this]
 have jn:Jbr gs g1 g2=(gs.filter fun g=>decide (g≠g1) && decide (g≠g2))++[g1++g2]:=rfl
 rw[jn]
 unfold LC at hc ⊢
 simp only[ne_eq,decide_not]at hc hz2 hz3 ⊢
 simp[hc,hz,hz2,hz3,ad,fx,-List.map_append,-List.filter_filter]
 have:=fixs_fR ((gs.filter fun g=>!decide (g=g1) && !decide (g=g2))++[g1++g2])
 simp only[List.map_append]at this ⊢
 exact this
theorem lcl_step (w:Part ns done gs) (hl:gs.length≤1000) (hsz:gs.flatten.length≤1000) {j:Jn} (ha:j.1∈ns) (hb:j.2.1∈ns) (o7 o8:Option D) :
  ∃gs' p7 p8,UH (LC ns js gs (some (.str j.1)) (some (.str j.2.1)) (some (.int j.2.2)) o7 o8 none)=.nx (LC ns js gs' (some (.str j.1)) (some (.str j.2.1)) (some (.int j.2.2)) p7 p8 none)∧Part ns (done++[j]) gs':=by
 obtain⟨g1,h1,a1,e1⟩:=JcC (js:=js) w ha hl 4 (some (.str j.1)) (some (.str j.2.1)) (some (.int j.2.2)) o7 o8 (.inl ⟨rfl,rfl⟩)
 obtain⟨g2,h2,a2,e2⟩:=JcC (js:=js) w hb hl 5 (some (.str j.1)) (some (.str j.2.1)) (some (.int j.2.2)) (some (fR g1)) o8 (.inr ⟨rfl,rfl⟩)
 have lg:∀{g:List Str},g∈gs→g.length≤1000:=fun {g} hg=>Nat.le_trans (List.Sublist.length_le (List.sublist_flatten_of_mem hg)) hsz
 have ej:=lcl_join (ns:=ns) (js:=js) g1 g2 hl (by have:=lg h1;have:=lg h2;omega) (some (.str j.1)) (some (.str j.2.1)) (some (.int j.2.2))
 have s1:sAsg (cImm (cIdx (cLc (JI (cVar 2)) [9] (gSet 9) (cTt (c2 pInW (cVar 4) (cVar 9))) (cGet 9)) (cK (.int 0)))) (gSet 7) (LC ns js gs (some (.str j.1)) (some (.str j.2.1)) (some (.int j.2.2)) o7 o8 none)=.nx (LC ns js gs (some (.str j.1)) (some (.str j.2.1)) (some (.int j.2.2)) (some (fR g1)) o8 none):=by
  unfold sAsg;rw[e1];rfl
 have s2:sAsg (cImm (cIdx (cLc (JI (cVar 2)) [9] (gSet 9) (cTt (c2 pInW (cVar 5) (cVar 9))) (cGet 9)) (cK (.int 0)))) (gSet 8) (LC ns js gs (some (.str j.1)) (some (.str j.2.1)) (some (.int j.2.2)) (some (fR g1)) o8 none)=.nx (LC ns js gs (some (.str j.1)) (some (.str j.2.1)) (some (.int j.2.2)) (some (fR g1)) (some (fR g2)) none):=by
  unfold sAsg;rw[e2];rfl
 have hne:cTt (c2 pNe (cVar 7) (cVar 8)) (LC ns js gs (some (.str j.1)) (some (.str j.2.1)) (some (.int j.2.2)) (some (fR g1)) (some (fR g2)) none)=.ok (decide (g1≠g2)) (LC ns js gs (some (.str j.1)) (some (.str j.2.1)) (some (.int j.2.2)) (some (fR g1)) (some (fR g2)) none):=by
  simp[LC,Jd6]
 by_cases h:g1=g2
 ·refine⟨gs,some (fR g1),some (fR g2),?_,w.keep h1 a1 (h ▸ a2)⟩
  rw[decide_eq_false (by simp[h])]at hne
  exact Jy s1 (Jy s2 (Jby hne rfl))
 ·refine⟨Jbr gs g1 g2,some (fR g1),some (fR g2),?_,w.join h1 h2 a1 a2 h⟩
  rw[decide_eq_true h]at hne
  exact Jy s1 (Jy s2 (JbF hne ej))
theorem Jbm (w:Part ns done gs):gs.flatten.length≤ns.length:=YD w.nd fun x hx=>(w.mem x).mp hx
theorem Qs (w:Part ns done gs):gs.length≤ns.length:=by
 have:∀gs:List (List Str),(∀g∈gs,g≠[])→gs.length≤gs.flatten.length:=fun gs=>by
  induction gs with
  | nil=>intro _;simp
  | cons g gs ih =>
   intro h
   have h1:=ih fun q hq=>h q (by simp[hq])
   have h2:=List.length_pos_iff.mpr (h g (by simp))
   rw[List.flatten_cons,List.length_append,List.length_cons];omega
 exact Nat.le_trans (this gs w.ne) (Jbm w)
theorem Jes (nd:ns.Nodup) (hns:ns.length≤1000) (hjs:js.length≤1000) (hone:∀j∈js,j.1∈ns) (hoth:∀j∈js,j.2.1∈ns) :
  ∃gs,JO [.lst .l (ns.map D.str),.lst .l (js.map jt)]=.ok (.lst .m ((cl gs).map rowD)) []∧Part ns js gs:=by
 have loop:=QZ (f:=jt) (g:=UF 3 (JA (gSet 4) (JA (gSet 5) (JA (gSet 6) UO)))) (body:=UH)
  (P:=fun rest env=>∃done gs o4 o5 o6 o7 o8,env=LC ns js gs o4 o5 o6 o7 o8 none∧Part ns done gs∧done++rest=js)
  (G:=fun j rest env=>∃done gs o7 o8,env=LC ns js gs (some (.str j.1)) (some (.str j.2.1)) (some (.int j.2.2)) o7 o8 none∧Part ns done gs∧done++j::rest=js)
  (fun j rest env ⟨done,gs,o4,o5,o6,o7,o8,e,h⟩=>⟨_,by rw[e];rfl,done,gs,o7,o8,rfl,h⟩)
  (fun j rest env ⟨done,gs,o7,o8,e,w,h⟩=>by
   subst e
   have hj:j∈js:=by rw[←h];simp
   have q1:=Jbm w
   have q2:=Qs w
   obtain⟨gs',p7,p8,e,w'⟩:=lcl_step (js:=js) w (by omega) (by omega) (hone j hj) (hoth j hj) o7 o8
   exact⟨_,e,done++[j],gs',_,_,_,p7,p8,rfl,w',by rw[←h];simp⟩)
  js (LC ns js (ns.map fun n=>[n]) none none none none none none) ⟨[],_,none,none,none,none,none,rfl,Part.start nd,rfl⟩
 obtain⟨env',f1,done,gs,o4,o5,o6,o7,o8,rfl,w,hd⟩:=loop
 rw[List.append_nil]at hd
 subst hd
 refine⟨gs,?_,w⟩
 have q2:=Qs w
 have h0:=Jdz (f:=D.str) (vs:=[3]) (g:=gSet 3) (ce:=cLst (Jb (cGet 3) cNil)) (env:=[some (.lst .l (ns.map D.str)),some (.lst .l (done.map jt)),none,none,none,none,none,none,none,none]) (y:=fun n=>D.lst .m [.str n]) (xs:=ns) (fun n _=>⟨_,rfl,rfl,by simp,rfl⟩)
 have hz:ns.length≤sizeLine:=Yr (by omega)
 have hjz:done.length≤sizeLine:=Yr (by omega)
 have hg:gs.length≤sizeLine:=Yr (by omega)
 have fx:fixs (ns.map fun n=>D.lst .m [.str n])=(ns.map fun n=>[n]).map fR:=by
  rw[List.map_map]
  clear h0 f1 hone hoth w q2 hns nd hz
  induction ns with
  | nil=>rfl
  | cons a as ih=>simp[ih,fR]
 have srt:∀g∈gs,JV [fR g]=some (rowD (Yq g)):=fun g hg=>by
  have:g.length≤1000:=by have:=Jbm w;exact Nat.le_trans (List.Sublist.length_le (List.sublist_flatten_of_mem hg)) (by omega)
  have:=ZN (g:=.f) (ns:=g) this
  exact this
 have hc:=Jdz (f:=fR) (vs:=[9]) (g:=gSet 9) (ce:=cL JV (Jb (cVar 9) cNil)) (env:=LC ns done gs o4 o5 o6 o7 o8 none) (y:=fun g=>rowD (Yq g)) (xs:=gs) (fun g hg=>⟨LC ns done gs o4 o5 o6 o7 o8 (some (fR g)),rfl,rfl,by
  have:=srt g hg
  simp[LC,this],rfl⟩)
 have hm:gs.map (fun g=>rowD (Yq g))=(gs.map Yq).map rowD:=by rw[List.map_map];rfl
 rw[hm]at hc
 have so:=sortOk_rows (rs:=gs.map Yq) (by simp;omega)
 have sr:=sort_rows (gs.map Yq)
 refine Uz ⟨rfl,by decide⟩ rfl (?_:Zg _=.rt _ (LC ns done gs o4 o5 o6 o7 o8 none)) rfl
 unfold Zg
 refine Jy (env1:=[some (.lst .l (ns.map D.str)),some (.lst .l (done.map jt)),some (.lst .m (ns.map fun n=>D.lst .m [.str n])),none,none,none,none,none,none,none]) ?_ ?_
 ·simp[YG,h0,hz,-List.map_map]
 refine Jy (env1:=LC ns done gs o4 o5 o6 o7 o8 none) ?_ ?_
 ·unfold LC at f1 ⊢
  simp[fx,f1,hjz,-List.map_map]
 ·have s2:cLc (JI (cVar 2)) [9] (gSet 9) cYes (cL JV (Jb (cVar 9) cNil)) (LC ns done gs o4 o5 o6 o7 o8 none)=.ok (.lst .m ((gs.map Yq).map rowD)) (LC ns done gs o4 o5 o6 o7 o8 none):=by
   unfold LC at hc ⊢
   have:((gs.map Yq).map rowD).length≤sizeLine:=by simpa using hg
   simp[hc,hg,-List.map_map]
  unfold sRet JbI cl
  rw[s2]
  simp[R.bind,so,sr,-List.map_map]
end
end VS
namespace VS
open PySem L2 SeqAt
structure GrpOk (js:List Jn) (G:List (List Str)):Prop where
 nd:G.Nodup
 ne:∀g∈G,g≠[]
 same:∀g∈G,∀g'∈G,∀m,m∈g→m∈g'→g=g'
 eqv:∀g∈G,∀a∈g,∀b,b∈g↔Conn js a b
 gnd:∀g∈G,g.Nodup
theorem Part.grp {ns:List Str} {js:List Jn} {gs:List (List Str)} (w:Part ns js gs):GrpOk js (cl gs)∧∀m,m∈ns↔∃g∈cl gs,m∈g:=by
 have mem:∀g,g∈cl gs↔∃g0∈gs,g=Yq g0:=fun g=>by
  unfold cl
  rw[(QK _).mem_iff,List.mem_map]
  exact⟨fun ⟨a,h,e⟩=>⟨a,h,e.symm⟩,fun ⟨a,h,e⟩=>⟨a,h,e.symm⟩⟩
 have ms:∀(g0:List Str) m,m∈Yq g0↔m∈g0:=fun g0 m=>(YN g0).mem_iff
 refine⟨⟨(QK _).nodup_iff.mpr w.sorted,fun g hg e=>?_,fun g hg g' hg' m hm hm'=>?_,fun g hg a ha b=>?_,fun g hg=>?_⟩,fun m=>?_⟩
 ·obtain⟨g0,h0,rfl⟩:=(mem g).mp hg
  have:=(YN g0).length_eq
  rw[e]at this
  exact w.ne g0 h0 (List.eq_nil_of_length_eq_zero this.symm)
 ·obtain⟨g0,h0,rfl⟩:=(mem g).mp hg
  obtain⟨g1,h1,rfl⟩:=(mem g').mp hg'
  rw[w.same h0 h1 ((ms g0 m).mp hm) ((ms g1 m).mp hm')]
 ·obtain⟨g0,h0,rfl⟩:=(mem g).mp hg
  rw[ms,w.eqv g0 h0 a ((ms g0 a).mp ha)]
 ·obtain⟨g0,h0,rfl⟩:=(mem g).mp hg
  exact(YN g0).nodup_iff.mpr ((List.pairwise_flatten.mp w.nd).1 g0 h0)
 ·rw[←w.mem m]
  constructor
  ·intro h
   obtain⟨g0,h0,hm⟩:=List.mem_flatten.mp h
   exact⟨Yq g0,(mem _).mpr ⟨g0,h0,rfl⟩,(ms g0 m).mpr hm⟩
  ·rintro ⟨g,hg,hm⟩
   obtain⟨g0,h0,rfl⟩:=(mem g).mp hg
   exact List.mem_flatten.mpr ⟨g0,h0,(ms g0 m).mp hm⟩
def rtG (G:List (List Str)) (m:Str):Str:=match G.find? (fun g=>decide (m∈g)) with
 | some (h::_)=>h
 | _=>m
theorem GrpOk.find {js:List Jn} {G:List (List Str)} (w:GrpOk js G) {g:List Str} {m:Str} (hg:g∈G) (hm:m∈g):G.find? (fun g=>decide (m∈g))=some g:=by
 cases h:G.find? (fun g=>decide (m∈g)) with
 | none=>have:=List.find?_eq_none.mp h g hg;simp[hm]at this
 | some g' =>
  have h1:=List.mem_of_find?_eq_some h
  have h2:=List.find?_some h
  rw[w.same g' h1 g hg m (by simpa using h2) hm]
theorem GrpOk.rt {js:List Jn} {G:List (List Str)} (w:GrpOk js G) {f:Str} {r:List Str} (hg:(f::r)∈G) {m:Str} (hm:m∈f::r):rtG G m=f:=by
 unfold rtG;rw[w.find hg hm]
theorem GrpOk.rt_join {js:List Jn} {G:List (List Str)} (w:GrpOk js G) {j:Jn} (hj:j∈js) (h1:∃g∈G,j.1∈g):rtG G j.1=rtG G j.2.1:=by
 obtain⟨g,hg,hm⟩:=h1
 have hm2:j.2.1∈g:=(w.eqv g hg _ hm _).mpr ⟨j.2.2,.one hj⟩
 unfold rtG;rw[w.find hg hm,w.find hg hm2]
 cases g with
 | nil=>cases hm
 | cons a as=>rfl
end VS
namespace VS
open PySem L2 SeqAt
abbrev Q2:=List Str × (Str→Int)
def lst2 (q:Q2) (j:Jn):Q2 :=
 if j.1∈q.1∧j.2.1∉q.1 then (q.1++[j.2.1],upI q.2 j.2.1 (q.2 j.1+j.2.2))
 else if j.2.1∈q.1∧j.1∉q.1 then (q.1++[j.1],upI q.2 j.1 (q.2 j.2.1 - j.2.2)) else q
def UI (js:List Jn) (td:List Str):Prop:=∀j∈js,(j.1∈td↔j.2.1∈td)
theorem JcU (q:Q2) (j:Jn):(∀m∈q.1,m∈(lst2 q j).1)∧q.1.length≤(lst2 q j).1.length∧(∀m∈q.1,(lst2 q j).2 m=q.2 m):=by
 unfold lst2
 split
 ·rename_i h
  exact⟨fun m hm=>List.mem_append_left _ hm,by simp,fun m hm=>if_neg (fun e:m=j.2.1=>h.2 (e ▸ hm))⟩
 ·split
  ·rename_i h
   exact⟨fun m hm=>List.mem_append_left _ hm,by simp,fun m hm=>if_neg (fun e:m=j.1=>h.2 (e ▸ hm))⟩
  ·exact⟨fun _ h=>h,Nat.le_refl _,fun _ _=>rfl⟩
theorem lst2_nd {q:Q2} (h:q.1.Nodup) (j:Jn):(lst2 q j).1.Nodup:=by
 unfold lst2
 have go:∀{x:Str},x∉q.1→(q.1++[x]).Nodup:=fun hx=>List.nodup_append.mpr ⟨h,by simp,fun a ha b hb=>by simp at hb;subst hb;intro z;subst z;exact hx ha⟩
 split
 ·rename_i z;exact go z.2
 ·split
  ·rename_i z;exact go z.2
  ·exact h
theorem lst2_both (q:Q2) (j:Jn):(j.1∈q.1∨j.2.1∈q.1)→j.1∈(lst2 q j).1∧j.2.1∈(lst2 q j).1:=by
 intro h
 unfold lst2
 by_cases h1:j.1∈q.1<;>by_cases h2:j.2.1∈q.1
 ·simp[h1,h2]
 ·simp[h1,h2]
 ·simp[h1,h2]
 ·rcases h with z | z
  ·exact absurd z h1
  ·exact absurd z h2
theorem QR:∀(js:List Jn) (q:Q2),(∀m∈q.1,m∈(js.foldl lst2 q).1)∧q.1.length≤(js.foldl lst2 q).1.length∧(∀m∈q.1,(js.foldl lst2 q).2 m=q.2 m)
 | [],q=>⟨fun _ h=>h,Nat.le_refl _,fun _ _=>rfl⟩
 | j::js,q=>by
  obtain⟨a1,a2,a3⟩:=JcU q j
  obtain⟨b1,b2,b3⟩:=QR js (lst2 q j)
  exact⟨fun m hm=>b1 m (a1 m hm),Nat.le_trans a2 b2,fun m hm=>(b3 m (a1 m hm)).trans (a3 m hm)⟩
theorem Jap:∀(js:List Jn) (q:Q2),∀j∈js,(j.1∈q.1∨j.2.1∈q.1)→j.1∈(js.foldl lst2 q).1∧j.2.1∈(js.foldl lst2 q).1
 | [],q=>fun j hj=>by cases hj
 | i::js,q=>fun j hj h=>by
  obtain⟨a1,_,_⟩:=JcU q i
  obtain⟨b1,_,_⟩:=QR js (lst2 q i)
  rcases List.mem_cons.mp hj with z | z
  ·subst z
   obtain⟨c1,c2⟩:=lst2_both q j h
   exact⟨b1 _ c1,b1 _ c2⟩
  ·exact Jap js (lst2 q i) j z (h.imp (a1 _) (a1 _))
theorem pass_grow {js:List Jn} {q:Q2} (hn:q.1.Nodup) (h:¬ UI js q.1):q.1.length < (js.foldl lst2 q).1.length:=by
 obtain⟨j,hj,hne⟩:∃j∈js,¬ (j.1∈q.1↔j.2.1∈q.1):=by
  by_cases hh:∃j∈js,¬ (j.1∈q.1↔j.2.1∈q.1)
  ·exact hh
  ·exact absurd (fun j hj=>Decidable.byContradiction fun z=>hh ⟨j,hj,z⟩) h
 obtain⟨a1,a2,_⟩:=QR js q
 have go:∀{x:Str},x∉q.1→x∈(js.foldl lst2 q).1→q.1.length < (js.foldl lst2 q).1.length:=fun {x} hx hx'=>by
  have:=YD (xs:=q.1++[x]) (ys:=(js.foldl lst2 q).1) (List.nodup_append.mpr ⟨hn,by simp,fun a ha b hb=>by simp at hb;subst hb;intro z;subst z;exact hx ha⟩) fun m hm=>(List.mem_append.mp hm).elim (a1 m) fun z=>by simp at z;rw[z];exact hx'
  simp at this;omega
 by_cases h1:j.1∈q.1<;>by_cases h2:j.2.1∈q.1
 ·exact absurd ⟨fun _=>h2,fun _=>h1⟩ hne
 ·exact go h2 (Jap js q j hj (.inl h1)).2
 ·exact go h1 (Jap js q j hj (.inr h2)).1
 ·exact absurd ⟨fun z=>absurd z h1,fun z=>absurd z h2⟩ hne
theorem Qk:∀{js ks:List Jn} {q:Q2},(∀j∈js,j∈ks)→UI ks q.1→js.foldl lst2 q=q
 | [],_,_,_,_=>rfl
 | j::js,ks,q,hs,h=>by
  have e:lst2 q j=q:=by
   have hc:=h j (hs j (by simp))
   unfold lst2
   rw[if_neg (fun z=>z.2 (hc.mp z.1)),if_neg (fun z=>z.2 (hc.mpr z.1))]
  rw[List.foldl_cons,e]
  exact Qk (fun i hi=>hs i (by simp[hi])) h
theorem Jca:∀(js:List Jn) {q:Q2},q.1.Nodup→(js.foldl lst2 q).1.Nodup
 | [],_,h=>h
 | j::js,_,h=>Jca js (lst2_nd h j)
def Zr (js:List Jn) (rt0:Str→Str) (q:Q2):Prop:=∀m∈q.1,Reach js (rt0 m) m (q.2 m)
theorem lst2_root {js:List Jn} {rt0:Str→Str} {q:Q2} (hr:∀j∈js,rt0 j.1=rt0 j.2.1) (h:Zr js rt0 q) {j:Jn} (hj:j∈js):Zr js rt0 (lst2 q j):=by
 have mem:(j.1,j.2.1,j.2.2)∈js:=hj
 unfold lst2
 split
 ·rename_i z
  intro m hm
  unfold upI
  by_cases e:m=j.2.1
  ·subst e;simp only[if_true];rw[←hr j hj];exact(h _ z.1).fwd mem
  ·simp only[if_neg e]
   rcases List.mem_append.mp hm with y | y
   ·exact h m y
   ·simp at y;exact absurd y e
 ·split
  ·rename_i z
   intro m hm
   unfold upI
   by_cases e:m=j.1
   ·subst e;simp only[if_true];rw[hr j hj];exact(h _ z.1).bwd mem
   ·simp only[if_neg e]
    rcases List.mem_append.mp hm with y | y
    ·exact h m y
    ·simp at y;exact absurd y e
  ·exact h
theorem pass_root {js ks:List Jn} {rt0:Str→Str} (hr:∀j∈ks,rt0 j.1=rt0 j.2.1):∀{q:Q2},(∀j∈js,j∈ks)→Zr ks rt0 q→Zr ks rt0 (js.foldl lst2 q):=by
 induction js with
 | nil=>exact fun _ h=>h
 | cons j js ih=>exact fun hs h=>ih (fun i hi=>hs i (by simp[hi])) (lst2_root hr h (hs j (by simp)))
section
variable {ns:List Str} {js:List Jn} {t:Int}
def LN (ns:List Str) (js:List Jn) (t:Int) (q:Q2) (o4 o5 o6 o7 o8:Option D):Env:=[some (.lst .l (ns.map D.str)),some (.lst .l (js.map jt)),some (dN .m q.1 q.2),o4,o5,o6,o7,o8]
theorem Jej (td:List Str) (o:Str→Int) (a:Str):pInW (.str a) (dN .m td o)=some (.bl (decide (a∈td))):=by
 have lk:Uq (td.map Sum.inr) (td.map fun m=>D.int (o m)) (Sum.inr a)=if a∈td then some (.int (o a)) else none:=JdP (g:=fun m=>D.int (o m))
 show (inB (.str a) (dN .m td o)).map D.bl=_
 by_cases h:a∈td<;>simp[inB,dN,D.key,lk,h]
theorem Jde (td:List Str) (o:Str→Int) (a:Str):QN (.str a) (dN .m td o)=some (.bl (decide (a∉td))):=by
 have lk:Uq (td.map Sum.inr) (td.map fun m=>D.int (o m)) (Sum.inr a)=if a∈td then some (.int (o a)) else none:=JdP (g:=fun m=>D.int (o m))
 by_cases h:a∈td<;>simp[QN,inB,dN,D.key,lk,h]
theorem JdA {td:List Str} {o:Str→Int} {a:Str} (ha:a∉td) (hl:td.length < sizeLine) (x:Int):stD (dN .m td o) (.str a) (.int x)=some (dN .m (td++[a]) (upI o a x)):=by
 unfold dN
 rw[st_new (g:=fun m=>D.int (o m)) ha hl]
 have:(fun m=>D.int (upI o a x m))=up1 (fun m=>D.int (o m)) a (.int x):=by
  funext m;unfold up1 upI;split<;>rfl
 rw[this]
theorem Ja8 {td:List Str} {o:Str→Int} {a:Str} (ha:a∈td):ixD (dN .m td o) (.str a)=some (.int (o a)):=by simp[dN,ixD,D.key,ha]
theorem ln_step (q:Q2) (hl:q.1.length≤100000) (j:Jn) (o4 o5:Option D) :
  Ul (LN ns js t q o4 o5 (some (.str j.1)) (some (.str j.2.1)) (some (.int j.2.2)))=.nx (LN ns js t (lst2 q j) o4 o5 (some (.str j.1)) (some (.str j.2.1)) (some (.int j.2.2))):=by
 obtain⟨td,o⟩:=q
 have hz:td.length < sizeLine:=JaN (by show td.length≤_;have:td.length≤100000:=hl;omega)
 have i1:=Jej td o j.1
 have i2:=Jej td o j.2.1
 have n1:=Jde td o j.1
 have n2:=Jde td o j.2.1
 unfold Ul lst2
 by_cases h1:j.1∈td<;>by_cases h2:j.2.1∈td
 ·simp only[h1,h2,not_true_eq_false,and_false,if_false,true_and,decide_true,decide_false,not_false_eq_true]at *
  unfold LN;simp[i1,i2,n1,n2]
 ·have s:=JdA h2 hz (o:=o) (o j.1+j.2.2)
  have x1:=Ja8 (o:=o) h1
  have i2':=Jej (td++[j.2.1]) (upI o j.2.1 (o j.1+j.2.2)) j.2.1
  have n1':=Jde (td++[j.2.1]) (upI o j.2.1 (o j.1+j.2.2)) j.1
  simp only[h1,h2,List.mem_append,List.mem_singleton,or_true,true_or,not_true_eq_false,not_false_eq_true,and_true,if_true,decide_true,decide_false]at *
  unfold LN;simp[i1,n2,x1,s,i2',n1']
 ·have s:=JdA h1 hz (o:=o) (o j.2.1 - j.2.2)
  have x2:=Ja8 (o:=o) h2
  simp only[h1,h2,false_and,true_and,if_false,if_true,not_true_eq_false,not_false_eq_true,decide_true,decide_false]at *
  unfold LN;simp[i1,i2,n1,x2,s]
 ·simp only[h1,h2,false_and,if_false,decide_true,decide_false,not_false_eq_true]at *
  unfold LN;simp[i1,i2]
theorem ln_pass (q:Q2) (hnd:q.1.Nodup) (hl:∀ks:List Jn,(∀j∈ks,j∈js)→(ks.foldl lst2 q).1.length≤100000) (hjs:js.length≤1000) (o4 o5 o6 o7 o8:Option D) :
  ∃p6 p7 p8,Ui (LN ns js t q o4 o5 o6 o7 o8)=.nx (LN ns js t (js.foldl lst2 q) o4 o5 p6 p7 p8):=by
 obtain⟨env',f1,done,p6,p7,p8,rfl,hd⟩:=QZ (f:=jt) (g:=UF 3 (JA (gSet 5) (JA (gSet 6) (JA (gSet 7) UO)))) (body:=Ul)
  (P:=fun rest env=>∃done p6 p7 p8,env=LN ns js t (done.foldl lst2 q) o4 o5 p6 p7 p8∧done++rest=js)
  (G:=fun j rest env=>∃done,env=LN ns js t (done.foldl lst2 q) o4 o5 (some (.str j.1)) (some (.str j.2.1)) (some (.int j.2.2))∧done++j::rest=js)
  (fun j rest env ⟨done,p6,p7,p8,e,h⟩=>⟨_,by rw[e];rfl,done,rfl,h⟩)
  (fun j rest env ⟨done,e,h⟩=>by
   subst e
   have:=ln_step (ns:=ns) (js:=js) (t:=t) (done.foldl lst2 q) (hl done fun i hi=>by rw[←h];simp[hi]) j o4 o5
   exact⟨_,this,done++[j],_,_,_,by rw[List.foldl_append];rfl,by rw[←h];simp⟩)
  js (LN ns js t q o4 o5 o6 o7 o8) ⟨[],o6,o7,o8,rfl,rfl⟩
 rw[List.append_nil]at hd
 subst hd
 refine⟨p6,p7,p8,?_⟩
 have hz:done.length≤sizeLine:=Yr hjs
 unfold Ui
 unfold LN at f1 ⊢
 simp[f1,hz]
end
end VS
namespace VS
open PySem L2 SeqAt
def passes (js:List Jn):Nat→Q2→Q2
 | 0,q=>q
 | n+1,q=>js.foldl lst2 (passes js n q)
theorem Zw {js:List Jn} {q:Q2} (h:q.1.Nodup):∀n,(passes js n q).1.Nodup
 | 0=>h
 | n+1=>Jca js (Zw h n)
theorem JbC (js:List Jn) (q:Q2):∀n,(∀m∈q.1,m∈(passes js n q).1)∧(∀m∈q.1,(passes js n q).2 m=q.2 m)
 | 0=>⟨fun _ h=>h,fun _ _=>rfl⟩
 | n+1=>by
  obtain⟨a1,a2⟩:=JbC js q n
  obtain⟨b1,_,b3⟩:=QR js (passes js n q)
  exact⟨fun m hm=>b1 m (a1 m hm),fun m hm=>(b3 m (a1 m hm)).trans (a2 m hm)⟩
theorem JaQ {js:List Jn} {rt0:Str→Str} (hr:∀j∈js,rt0 j.1=rt0 j.2.1) {q:Q2} (h:Zr js rt0 q):∀n,Zr js rt0 (passes js n q)
 | 0=>h
 | n+1=>pass_root hr (fun _ h=>h) (JaQ hr h n)
theorem JbA {js:List Jn} {q:Q2} (h:q.1.Nodup):∀n,UI js (passes js n q).1∨q.1.length+n≤(passes js n q).1.length
 | 0=>.inr (by simp[passes])
 | n+1=>by
  rcases JbA h n with z | z
  ·left;show UI js (js.foldl lst2 (passes js n q)).1;rw[Qk (fun _ h=>h) z];exact z
  ·by_cases hc:UI js (passes js n q).1
   ·left;show UI js (js.foldl lst2 (passes js n q)).1;rw[Qk (fun _ h=>h) hc];exact hc
   ·right
    have:=pass_grow (Zw h n) hc
    show _≤(js.foldl lst2 (passes js n q)).1.length
    omega
def Jdi (S:Str→Prop) (js:List Jn):Prop:=∀j∈js,(S j.1↔S j.2.1)
theorem lst2_mem (q:Q2) (j:Jn) (m:Str):m∈(lst2 q j).1→m∈q.1∨(m=j.2.1∧j.1∈q.1)∨(m=j.1∧j.2.1∈q.1):=by
 unfold lst2
 split
 ·rename_i z
  intro hm
  rcases List.mem_append.mp hm with y | y
  ·exact .inl y
  ·simp at y;exact .inr (.inl ⟨y,z.1⟩)
 ·split
  ·rename_i z
   intro hm
   rcases List.mem_append.mp hm with y | y
   ·exact .inl y
   ·simp at y;exact .inr (.inr ⟨y,z.1⟩)
  ·exact .inl
theorem Jcn {S:Str→Prop} {ks:List Jn} (hk:Jdi S ks):∀{js:List Jn} {q:Q2},(∀j∈js,j∈ks)→(∀m∈q.1,S m)→∀m∈(js.foldl lst2 q).1,S m
 | [],_,_,h=>h
 | j::js,q,hs,h=>by
  have hj:=hk j (hs j (by simp))
  refine Jcn hk (js:=js) (q:=lst2 q j) (fun i hi=>hs i (by simp[hi])) fun m hm=>?_
  rcases lst2_mem q j m hm with y | ⟨y,z⟩ | ⟨y,z⟩
  ·exact h m y
  ·rw[y];exact hj.mp (h _ z)
  ·rw[y];exact hj.mpr (h _ z)
theorem JbM {S:Str→Prop} {js:List Jn} (hk:Jdi S js) {q:Q2} (h:∀m∈q.1,S m):∀n,∀m∈(passes js n q).1,S m
 | 0=>h
 | n+1=>Jcn hk (fun _ h=>h) (JbM hk h n)
def Bd (q:Q2):Prop:=∀m∈q.1,-(1000000000000 * (q.1.length:Int))≤q.2 m∧q.2 m≤1000000000000 * (q.1.length:Int)
theorem Bd.lst2 {q:Q2} (h:Bd q) {j:Jn} (hj:-1000000000000≤j.2.2∧j.2.2≤1000000000000):Bd (lst2 q j):=by
 obtain⟨td,o⟩:=q
 have up:∀{x:Str} {a:Str} {z:Int},a∈td→(z=o a+j.2.2∨z=o a - j.2.2)→Bd (td++[x],upI o x z):=fun {x a z} ha hz m hm=>by
  have h1:=h a ha
  simp only[List.length_append,List.length_singleton]at h1 ⊢
  show _≤upI o x z m∧upI o x z m≤_
  unfold upI
  by_cases e:m=x
  ·rw[if_pos e];push_cast;rcases hz with z | z<;>omega
  ·rw[if_neg e]
   rcases List.mem_append.mp hm with q | q
   ·have:=h m q;simp only at this;push_cast;omega
   ·exact absurd (List.mem_singleton.mp q) e
 unfold VS.lst2
 simp only
 by_cases c1:j.1∈td∧j.2.1∉td
 ·simp only[c1,and_self,if_true,not_true_eq_false,and_false,if_false,not_false_eq_true,List.mem_append,true_or]
  exact up c1.1 (.inl rfl)
 ·by_cases c2:j.2.1∈td∧j.1∉td
  ·have c1':¬ (j.1∈td∧j.2.1∉td):=c1
   simp only[if_neg c1',if_pos c2]
   exact up c2.1 (.inr rfl)
  ·simp only[if_neg c1,if_neg c2];exact h
theorem Bd.fold {js:List Jn} (hb:∀j∈js,-1000000000000≤j.2.2∧j.2.2≤1000000000000):∀{q:Q2},Bd q→Bd (js.foldl VS.lst2 q):=by
 induction js with
 | nil=>exact fun h=>h
 | cons j js ih=>exact fun h=>ih (fun i hi=>hb i (by simp[hi])) (h.lst2 (hb j (by simp)))
theorem Bd.passes {js:List Jn} (hb:∀j∈js,-1000000000000≤j.2.2∧j.2.2≤1000000000000) {q:Q2} (h:Bd q):∀n,Bd (passes js n q)
 | 0=>h
 | n+1=>Bd.fold hb (Bd.passes hb h n)
theorem Bd.add {td:List Str} {o:Str→Int} (h:Bd (td,o)) (f:Str):Bd (td++[f],upI o f 0):=fun m hm=>by
 simp only[List.length_append,List.length_singleton]
 show _≤upI o f 0 m∧upI o f 0 m≤_
 unfold upI
 by_cases e:m=f
 ·rw[if_pos e];push_cast;omega
 ·rw[if_neg e]
  rcases List.mem_append.mp hm with q | q
  ·have:=h m q;simp only at this;push_cast;omega
  ·exact absurd (List.mem_singleton.mp q) e
theorem closed_reach {js:List Jn} {td:List Str} (h:UI js td) {a b:Str} {o:Int} (r:Reach js a b o) (ha:a∈td):b∈td:=by
 induction r with
 | refl=>exact ha
 | fwd _ m ih=>exact(h _ m).mp ih
 | bwd _ m ih=>exact(h _ m).mpr ih
theorem JcY {js:List Jn} {td g:List Str} {o:Str→Int} {f:Str} (nd:td.Nodup) (hc:UI js td) (hf:f∈g) (hft:f∉td) (hg:∀m,m∈g↔Conn js f m) :
  UI js (passes js g.length (td++[f],upI o f 0)).1∧(∀m,m∈(passes js g.length (td++[f],upI o f 0)).1↔m∈td∨m∈g)∧(∀n,∀m∈(passes js n (td++[f],upI o f 0)).1,m∈td∨m∈g):=by
 have nd0:(td++[f]).Nodup:=List.nodup_append.mpr ⟨nd,by simp,fun a ha b hb=>by simp at hb;subst hb;intro z;subst z;exact hft ha⟩
 have hk:Jdi (fun m=>m∈td∨m∈g) js:=fun j hj=>by
  have c1:=hc j hj
  have c2:Conn js j.1 j.2.1:=⟨j.2.2,.one hj⟩
  have c3:j.1∈g↔j.2.1∈g:=by rw[hg,hg];exact⟨fun z=>z.trans c2,fun z=>z.trans c2.symm⟩
  show (j.1∈td∨j.1∈g)↔(j.2.1∈td∨j.2.1∈g)
  rw[c1,c3]
 have sub:=fun n=>JbM hk (q:=(td++[f],upI o f 0)) (fun m hm=>(List.mem_append.mp hm).imp id fun z=>by simp at z;rw[z];exact hf) n
 have ndn:=fun n=>Zw (js:=js) (q:=(td++[f],upI o f 0)) nd0 n
 have cl:UI js (passes js g.length (td++[f],upI o f 0)).1:=by
  rcases JbA (js:=js) (q:=(td++[f],upI o f 0)) nd0 g.length with z | z
  ·exact z
  ·exfalso
   have:=YD (ndn g.length) (ys:=td++g) fun m hm=>List.mem_append.mpr (sub g.length m hm)
   simp at z this;omega
 obtain⟨s1,_⟩:=JbC js (td++[f],upI o f 0) g.length
 refine⟨cl,fun m=>⟨sub g.length m,fun hm=>?_⟩,sub⟩
 rcases hm with z | z
 ·exact s1 m (List.mem_append_left _ z)
 ·obtain⟨o',r⟩:=(hg m).mp z
  exact closed_reach cl r (s1 f (by simp))
section
variable {ns:List Str} {js:List Jn} {t:Int}
theorem ln_group {td g:List Str} {o:Str→Int} {f:Str} {r:List Str} (hgr:g=f::r) (nd:td.Nodup) (hc:UI js td) (hft:f∉td) (hg:∀m,m∈g↔Conn js f m) (hl:td.length+g.length≤10000) (hjs:js.length≤1000) (o5 o6 o7 o8:Option D) :
  ∃p5 p6 p7 p8,YF (LN ns js t (td,o) (some (fR g)) o5 o6 o7 o8)=.nx (LN ns js t (passes js g.length (td++[f],upI o f 0)) (some (fR g)) p5 p6 p7 p8):=by
 have hf:f∈g:=by rw[hgr];simp
 obtain⟨_,_,sub⟩:=JcY (o:=o) nd hc hf hft hg
 have nd0:(td++[f]).Nodup:=List.nodup_append.mpr ⟨nd,by simp,fun a ha b hb=>by simp at hb;subst hb;intro z;subst z;exact hft ha⟩
 have hk:Jdi (fun m=>m∈td∨m∈g) js:=fun j hj=>by
  have c1:=hc j hj
  have c2:Conn js j.1 j.2.1:=⟨j.2.2,.one hj⟩
  have c3:j.1∈g↔j.2.1∈g:=by rw[hg,hg];exact⟨fun z=>z.trans c2,fun z=>z.trans c2.symm⟩
  show (j.1∈td∨j.1∈g)↔(j.2.1∈td∨j.2.1∈g)
  rw[c1,c3]
 have ndn:=fun n=>Zw (js:=js) (q:=(td++[f],upI o f 0)) nd0 n
 obtain⟨env',f1,done,p5,p6,p7,p8,rfl,hd⟩:=QZ (f:=D.str) (g:=gSet 4) (body:=Ui)
  (P:=fun rest env=>∃done p5 p6 p7 p8,env=LN ns js t (passes js done.length (td++[f],upI o f 0)) (some (fR g)) p5 p6 p7 p8∧done++rest=g)
  (G:=fun n rest env=>∃done p6 p7 p8,env=LN ns js t (passes js done.length (td++[f],upI o f 0)) (some (fR g)) (some (.str n)) p6 p7 p8∧done++n::rest=g)
  (fun n rest env ⟨done,p5,p6,p7,p8,e,h⟩=>⟨_,by rw[e];rfl,done,p6,p7,p8,rfl,h⟩)
  (fun n rest env ⟨done,p6,p7,p8,e,h⟩=>by
   subst e
   obtain⟨q6,q7,q8,e⟩:=ln_pass (ns:=ns) (js:=js) (t:=t) (passes js done.length (td++[f],upI o f 0)) (ndn _) (fun ks hks=>by
    have i:=Jcn hk (js:=ks) hks (sub done.length)
    have ndk:=Jca ks (ndn done.length)
    have:=YD ndk (ys:=td++g) fun m hm=>List.mem_append.mpr (i m hm)
    simp at this;omega) hjs (some (fR g)) (some (.str n)) p6 p7 p8
   exact⟨_,e,done++[n],some (.str n),q6,q7,q8,by rw[List.length_append];rfl,by rw[←h];simp⟩)
  g (LN ns js t (td++[f],upI o f 0) (some (fR g)) o5 o6 o7 o8) ⟨[],o5,o6,o7,o8,rfl,rfl⟩
 rw[List.append_nil]at hd
 subst hd
 refine⟨p5,p6,p7,p8,?_⟩
 have tl:td.length < sizeLine:=JaN (by omega)
 have s:=JdA hft tl (o:=o) 0
 have a0:atI (done.map D.str) 0=some (.str f):=by rw[hgr,List.map_cons,show (0:Int)=((0:Nat):Int) from rfl,UY (by simp)];rfl
 have hz:done.length≤sizeLine:=UG (by omega)
 have im:imms (done.map D.str)=true:=Ut (fun _=>rfl) _
 unfold YF
 refine Jy (env1:=LN ns js t (td++[f],upI o f 0) (some (fR done)) o5 o6 o7 o8) ?_ ?_
 ·unfold LN fR;simp[a0,s]
 ·unfold LN fR at f1 ⊢
  simp[im,f1,hz]
end
end VS
namespace VS
open PySem L2 SeqAt
section
variable {ns:List Str} {js:List Jn} {t:Int}
theorem ln_groups {G:List (List Str)} (w:GrpOk js G) (hin:∀m,m∈ns↔∃g∈G,m∈g) (hns:ns.length≤1000) (hjs:js.length≤1000) (hone:∀j∈js,j.1∈ns) (hbd:∀j∈js,-1000000000000≤j.2.2∧j.2.2≤1000000000000) (o4 o5 o6 o7 o8:Option D) :
  ∃q p4 p5 p6 p7 p8,YJ (gSet 3) YF (G.map fR) (LN ns js t ([],fun _=>0) o4 o5 o6 o7 o8)=.nx (LN ns js t q p4 p5 p6 p7 p8)∧q.1.Nodup∧(∀m,m∈q.1↔m∈ns)∧Bd q∧Zr js (rtG G) q:=by
 have hrt:∀j∈js,rtG G j.1=rtG G j.2.1:=fun j hj=>w.rt_join hj ((hin _).mp (hone j hj))
 obtain⟨env',f1,done,q,p4,p5,p6,p7,p8,rfl,nd,cl,hm,⟨bd,rt⟩,hd⟩:=QZ (f:=fR) (g:=gSet 3) (body:=YF)
  (P:=fun rest env=>∃(done:List (List Str)) (q:Q2) (p4 p5 p6 p7 p8:Option D),env=LN ns js t q p4 p5 p6 p7 p8∧q.1.Nodup∧UI js q.1∧(∀m,m∈q.1↔∃g∈done,m∈g)∧(Bd q∧Zr js (rtG G) q)∧done++rest=G)
  (G:=fun g rest env=>∃(done:List (List Str)) (q:Q2) (p5 p6 p7 p8:Option D),env=LN ns js t q (some (fR g)) p5 p6 p7 p8∧q.1.Nodup∧UI js q.1∧(∀m,m∈q.1↔∃g∈done,m∈g)∧(Bd q∧Zr js (rtG G) q)∧done++g::rest=G)
  (fun g rest env ⟨done,q,p4,p5,p6,p7,p8,e,h⟩=>⟨_,by rw[e];rfl,done,q,p5,p6,p7,p8,rfl,h⟩)
  (fun g rest env ⟨done,q,p5,p6,p7,p8,e,nd,cl,hm,⟨bd,rt⟩,hd⟩=>by
   subst e
   obtain⟨td,o⟩:=q
   have hg:g∈G:=by rw[←hd];simp
   have hdg:∀g'∈done,g'∈G:=fun g' h=>by rw[←hd];simp[h]
   have hnd:g∉done:=fun z=>by
    have:=w.nd
    rw[←hd]at this
    exact(List.nodup_append.mp this).2.2 g z g (by simp) rfl
   obtain⟨f,r,hgr⟩:∃f r,g=f::r:=by
    cases g with
    | nil=>exact absurd rfl (w.ne _ hg)
    | cons f r=>exact⟨f,r,rfl⟩
   have hf:f∈g:=by rw[hgr];simp
   have hft:f∉td:=fun z=>by
    obtain⟨g',h',hm'⟩:=(hm f).mp z
    exact hnd (w.same g' (hdg g' h') g hg f hm' hf ▸ h')
   have hgc:∀m,m∈g↔Conn js f m:=w.eqv g hg f hf
   have hl:td.length+g.length≤10000:=by
    have h1:=YD nd (ys:=ns) fun m z=>(hin m).mpr (by obtain⟨g',h',hm'⟩:=(hm m).mp z;exact⟨g',hdg g' h',hm'⟩)
    have h2:td.length≤1000:=by have:td.length≤ns.length:=h1;omega
    have h3:g.length≤ns.length:=YD (w.gnd g hg) fun m z=>(hin m).mpr ⟨g,hg,z⟩
    omega
   obtain⟨q5,q6,q7,q8,e⟩:=ln_group (ns:=ns) (js:=js) (t:=t) (o:=o) hgr nd cl hft hgc hl hjs p5 p6 p7 p8
   obtain⟨cl2,hm2,_⟩:=JcY (js:=js) (o:=o) nd cl hf hft hgc
   have rt0:Zr js (rtG G) (td++[f],upI o f 0):=fun m z=>by
    unfold upI
    by_cases e:m=f
    ·subst e
     simp only[if_true]
     rw[w.rt (hgr ▸ hg) (hgr ▸ hf)]
     exact .refl _
    ·simp only[if_neg e]
     rcases List.mem_append.mp z with y | y
     ·exact rt m y
     ·simp at y;exact absurd y e
   refine⟨_,e,done++[g],_,_,q5,q6,q7,q8,rfl,Zw (List.nodup_append.mpr ⟨nd,by simp,fun a ha b hb=>by simp at hb;subst hb;intro z;subst z;exact hft ha⟩) _,cl2,fun m=>?_,⟨(bd.add f).passes hbd _,JaQ hrt rt0 _⟩,by rw[←hd];simp⟩
   rw[hm2 m]
   constructor
   ·rintro (z | z)
    ·obtain⟨g',h',hm'⟩:=(hm m).mp z
     exact⟨g',by simp[h'],hm'⟩
    ·exact⟨g,by simp,z⟩
   ·rintro ⟨g',h',hm'⟩
    rcases List.mem_append.mp h' with y | y
    ·exact .inl ((hm m).mpr ⟨g',y,hm'⟩)
    ·simp at y;subst y;exact .inr hm')
  G (LN ns js t ([],fun _=>0) o4 o5 o6 o7 o8) ⟨[],([],fun _=>0),o4,o5,o6,o7,o8,rfl,by simp,(fun j _=>by simp),(fun m=>by simp),⟨(fun m z=>by cases z),(fun m z=>by cases z)⟩,rfl⟩
 rw[List.append_nil]at hd
 subst hd
 exact⟨q,p4,p5,p6,p7,p8,f1,nd,fun m=>(hm m).trans (hin m).symm,bd,rt⟩
end
end VS
namespace VS
open PySem L2 SeqAt
theorem JaV (n:Str):∀r:List Str,((r.map D.str).any fun d=>pyEq d (.str n))=decide (n∈r)
 | []=>by simp
 | x::r=>by
  have:=JaV n r
  by_cases e:x=n
  ·subst e;simp[pyEq]
  ·have e':¬ n=x:=fun z=>e z.symm
   simp only[List.map_cons,List.any_cons,this]
   simp[pyEq,e,e']
theorem JdM (g:Fl) (n:Str) (l:List Str):pInW (.str n) (.lst g (l.map D.str))=some (.bl (decide (n∈l))):=by
 have h:pIn (.str n) (.lst g (l.map D.str))=some (.bl (decide (n∈l))):=by
  show (if eqOk 40 (.str n) && eqOks 40 (l.map D.str) then some ((l.map D.str).any fun d=>pyEq d (.str n)) else none).map D.bl=_
  rw[YQ 40,JaV]
  rfl
 show orP2 pInS pIn (.str n) (.lst g (l.map D.str))=_
 have h0:pInS (.str n) (.lst g (l.map D.str))=none:=rfl
 unfold orP2
 rw[h0];exact h
theorem JcX (g:Fl) (n:Str) (l:List Str):QN (.str n) (.lst g (l.map D.str))=some (.bl (!decide (n∈l))):=by
 show (if eqOk 40 (.str n) && eqOks 40 (l.map D.str) then some ((l.map D.str).any fun d=>pyEq d (.str n)) else none).map (fun b=>D.bl (!b))=_
 rw[YQ 40,JaV]
 rfl
end VS
namespace VS
open PySem L2 SeqAt
inductive HSt (l:List Str):D→Prop
 | l:HSt l (.lst .l (l.map D.str))
 | f:HSt l (.lst .f (l.map D.str))
 | t:HSt l (.tup (l.map D.str))
end VS
namespace VS
open PySem L2 SeqAt
section
variable {js:List Jn} {a b:Str}
theorem HSt.imm {l:List Str} {S:D} (h:HSt l S):S.imm=true:=by
 have:imms (l.map D.str)=true:=Ut (f:=D.str) (fun _=>rfl) l
 cases h
 ·show ((Fl.l == .l || Fl.l == .f) && imms (l.map D.str))=true;rw[this];rfl
 ·show ((Fl.f == .l || Fl.f == .f) && imms (l.map D.str))=true;rw[this];rfl
 ·exact this
theorem HSt.lend {l:List Str} {S:D} (h:HSt l S):HSt l S.lend:=by
 have:=ZK l
 cases h
 ·show HSt l (D.lst .l (lends (l.map D.str)));rw[this];exact .l
 ·show HSt l (D.lst .l (lends (l.map D.str)));rw[this];exact .l
 ·show HSt l (D.tup (lends (l.map D.str)));rw[this];exact .t
theorem HSt.seq {l:List Str} {S:D} (h:HSt l S):UV S=some (l.map D.str):=by cases h<;>rfl
theorem JcD {l:List Str} (n:Str):(if eqOk 40 (.str n) && eqOks 40 (l.map D.str) then some ((l.map D.str).any fun d=>pyEq d (.str n)) else none)=some (decide (n∈l)):=by
 rw[YQ 40,JaV];rfl
theorem HSt.nin {l:List Str} {S:D} (h:HSt l S) (n:Str):QN (.str n) S=some (.bl (!decide (n∈l))):=by
 cases h
 ·exact JcX .l n l
 ·exact JcX .f n l
 ·show (if eqOk 40 (.str n) && eqOks 40 (l.map D.str) then some ((l.map D.str).any fun d=>pyEq d (.str n)) else none).map (fun b=>D.bl (!b))=_
  rw[JcD];rfl
theorem HSt.inn {l:List Str} {S:D} (h:HSt l S) (n:Str):pInW (.str n) S=some (.bl (decide (n∈l))):=by
 cases h
 ·exact JdM .l n l
 ·exact JdM .f n l
 ·have h:pIn (.str n) (.tup (l.map D.str))=some (.bl (decide (n∈l))):=by
   show (if eqOk 40 (.str n) && eqOks 40 (l.map D.str) then some ((l.map D.str).any fun d=>pyEq d (.str n)) else none).map D.bl=_
   rw[JcD];rfl
  show orP2 pInS pIn (.str n) (.tup (l.map D.str))=_
  have h0:pInS (.str n) (.tup (l.map D.str))=none:=rfl
  unfold orP2
  rw[h0];exact h
theorem HSt.len {l:List Str} {S:D} (h:HSt l S):pLen [S]=some (.int (l.length:Nat)):=by
 cases h<;>simp[pLen]
theorem HSt.any {l:List Str} {S:D} (h:HSt l S) (i:Nat) {env:Env} (e:env[i]?=some (some S)):JI (cVar i) env=.ok (l.map D.str) env:=by
 have hi:imms (l.map D.str)=true:=Ut (f:=D.str) (fun _=>rfl) l
 cases h<;>simp[e,hi]
theorem HSt.lset {l:List Str} {S:D} (h:HSt l S) (hl:l.length≤1000):∃k,QW (l.map D.str)=some k∧k.length=l.length∧((ddup k).length=l.length↔l.Nodup):=by
 have keysD_s:∀ms:List Str,QW (ms.map D.str)=some (ms.map Sum.inr):=fun ms=>by
  induction ms with
  | nil=>rfl
  | cons m ms ih=>simp[QW,D.key,ih]
 refine⟨l.map Sum.inr,keysD_s l,by simp,?_⟩
 have:=JdW (l.map (Sum.inr:Str→Key))
 rw[List.length_map]at this
 rw[this]
 exact⟨fun n=>List.Pairwise.of_map _ (fun x y h e=>h (by rw[e])) n,fun n=>List.Pairwise.map _ (fun x y h e=>h (JaW _ _ e)) n⟩
end
end VS
namespace VS
open PySem L2 SeqAt
theorem ZQ {c1 c2:CS} {env env1:Env} {r:D} (h1:c1 env=.rt r env1):sSeq c1 c2 env=.rt r env1:=by rw[Jep,h1];rfl
theorem p_unlike {l:List Str} {S:D} (h:HSt l S) (hl:l.length≤1000):Uu [S]=.ok (.bl (decide l.Nodup)) []:=by
 obtain⟨k,hk1,hk2,hk3⟩:=h.lset hl
 have hk4:k.length≤4000:=by omega
 have sq:=h.seq
 have el:=h.len
 refine Uz (env0:=[some S]) (env:=[some S]) ⟨rfl,by decide⟩ rfl ?_ (by rfl)
 unfold QU
 by_cases hn:l.Nodup
 ·have:=hk3.mpr hn
  rw[decide_eq_true hn]
  simp[sq,hk1,hk4,this,el]
 ·have h1:¬ (ddup k).length=l.length:=fun z=>hn (hk3.mp z)
  rw[decide_eq_false hn]
  have h2:¬ ((ddup k).length:Int)=(l.length:Int):=by omega
  simp[sq,hk1,hk4,h2,el]
end VS
namespace VS
open PySem L2 SeqAt
def isNm (ns:List Str):D→Bool
 | .str s=>decide (s∈ns)
 | _=>false
theorem Jbe {ns:List Str}:∀{ds:List D},ds.all (isNm ns)=true→∃l:List Str,ds=l.map D.str∧∀s∈l,s∈ns
 | [],_=>⟨[],rfl,fun _ z=>nomatch z⟩
 | d::ds,h=>by
  rw[List.all_cons,Bool.and_eq_true]at h
  obtain⟨l,rfl,hl⟩:=Jbe h.2
  cases d with
  | str s =>
   refine⟨s::l,rfl,fun x hx=>?_⟩
   rcases List.mem_cons.mp hx with z | z
   ·rw[z];simpa [isNm] using h.1
   ·exact hl x z
  | _=>simp[isNm]at h
section
variable {n:Nat} {d:D} {ns:List Str} {js:List Jn} {a b:Str} {dn dj:D}
theorem Jac (h:pln n d=true) (hL:isL d=true):∃ds,UV d=some ds∧(d=.lst .l ds∨d=.tup ds)∧(∀x∈ds,pln (n - 1) x=true)∧ds.length≤1000000∧∀(env:Env) (i:Nat),env[i]?=some (some d)→JI (cVar i) env=.ok ds env:=by
 cases d with
 | tup ds =>
  obtain⟨h1,h2⟩:=Ja2 h
  have im:imms ds=true:=by have:=(YI h).1;simpa using this
  exact⟨ds,rfl,.inr rfl,h2,h1,fun env i e=>by simp[e,im]⟩
 | lst g ds =>
  obtain⟨rfl,h1,h2⟩:=pln_lst h
  have im:imms ds=true:=by have:=(YI h).1;simpa using this
  exact⟨ds,rfl,.inl rfl,h2,h1,fun env i e=>by simp[e,im]⟩
 | _=>simp[isL]at hL
theorem v_is_named (hn:HSt ns dn) (h:pln n d=true):Yx [dn,d]=.ok (.bl (isNm ns d)) []:=by
 have t:=Jd9 h
 unfold Yx JR Jbx
 cases d with
 | str s =>
  have:=hn.inn s
  simp[YG,Ue,JK,t,isS,this,isNm]
 | _=>simp[YG,Ue,JK,t,isS,isNm]
theorem v_some_of (hn:HSt ns dn) (h:pln n d=true) (hsz:∀ds,UV d=some ds→ds.length≤1000) :
  (JU [dn,d]=.ok (.bl false) []∧((isL d=false)∨∃ds,UV d=some ds∧isL d=true∧ds.all (isNm ns)=false))∨∃l:List Str,HSt l d∧isL d=true∧(∀s∈l,s∈ns)∧l.length≤1000∧JU [dn,d]=.ok (.bl (decide l.Nodup)) []:=by
 have vl:=JbQ h
 have ll:=(YI h).2
 have hnl:∃dn',dn.lend=dn'∧HSt ns dn':=⟨_,rfl,hn.lend⟩
 obtain⟨dn',e0,hn'⟩:=hnl
 cases hL:isL d with
 | false =>
  rw[hL]at vl
  refine .inl ⟨?_,.inl rfl⟩
  refine Uz (env0:=[some dn,some d,none]) (env:=[some dn,some d,none]) ⟨rfl,by decide⟩ rfl ?_ rfl
  unfold UM
  refine ZQ ?_
  simp[YG,ll,vl]
 | true =>
  rw[hL]at vl
  obtain⟨ds,sq,hd,hx,hz,src⟩:=Jac h hL
  have hz':=hsz ds sq
  have hzz:ds.length≤sizeLine:=UG (by omega)
  have lc:=JaA (vs:=[2]) (g:=gSet 2) (ce:=Jo Yx (aRo (cVar 0) (aRo (cVar 2) aNil))) (env:=[some dn,some d,none]) (y:=fun x=>.bl (isNm ns x)) (ds:=ds) fun x hx'=>by
   have px:=hx x hx'
   have l:=(YI px).2
   have v:=v_is_named hn' px
   exact⟨[some dn,some d,some x],by simp,by simp,by simp[l,e0,v],by simp⟩
  have e:(ds.map fun x=>D.bl (isNm ns x))=(ds.map (isNm ns)).map D.bl:=by rw[List.map_map];rfl
  rw[e]at lc
  have al:pAll [.lst .m ((ds.map (isNm ns)).map D.bl)]=some (.bl (ds.all (isNm ns))):=by rw[Jbp,List.all_map];rfl
  have sc:=src [some dn,some d,none] 1 rfl
  have tst:∀v:Bool,ds.all (isNm ns)=v→(tcOr (UE (cTt (Jo Yn (aRo (cVar 1) aNil)))) (UE (cTt (cL pAll (Jb (cLc (JI (cVar 1)) [2] (gSet 2) cYes (Jo Yx (aRo (cVar 0) (aRo (cVar 2) aNil)))) cNil))))) [some dn,some d,none]=.ok (!v) [some dn,some d,none]:=fun v hv=>by
   rw[hv]at al
   have lcc:cLc (JI (cVar 1)) [2] (gSet 2) cYes (Jo Yx (aRo (cVar 0) (aRo (cVar 2) aNil))) [some dn,some d,none]=.ok (.lst .m ((ds.map (isNm ns)).map D.bl)) [some dn,some d,none]:=by
    rw[e_lc,sc]
    simp[-List.map_map,lc,hzz]
   simp[-e_lc,-Qf,-List.map_map,ll,vl,lcc,al]
  cases hv:ds.all (isNm ns) with
  | false =>
   refine .inl ⟨?_,.inr ⟨ds,sq,rfl,hv⟩⟩
   refine Uz (env0:=[some dn,some d,none]) (env:=[some dn,some d,none]) ⟨rfl,by decide⟩ rfl ?_ rfl
   unfold UM
   refine ZQ ?_
   rw[Jdv,tst false hv];rfl
  | true =>
   obtain⟨l,rfl,hl⟩:=Jbe hv
   have hS:HSt l d:=by rcases hd with rfl | rfl;exact .l;exact .t
   have hl':l.length≤1000:=by simpa using hz'
   have pu:=p_unlike hS hl'
   refine .inr ⟨l,hS,rfl,hl,hl',?_⟩
   refine Uz (env0:=[some dn,some d,none]) (env:=[some dn,some d,none]) ⟨rfl,by decide⟩ rfl ?_ rfl
   unfold UM
   refine Jy (env1:=[some dn,some d,none]) ?_ ?_
   ·rw[Jdv,tst true hv];rfl
   ·simp[ll,pu]
end
end VS
namespace VS
open PySem L2 SeqAt
def toNr:D→Option (Str × Int)
 | .tup [.str s,.int n]=>some (s,n)
 | _=>none
theorem JdB (p:Str × Int):toNr (nr p)=some p:=rfl
theorem Jdx {d:D} {p:Str × Int} (h:toNr d=some p):d=nr p:=by
 unfold toNr at h
 split at h
 ·cases h;rfl
 ·cases h
def ZV:List D→Option (List (Str × Int))
 | []=>some []
 | d::ds=>(toNr d).bind fun p=>(ZV ds).map (p::·)
theorem Jbw:∀rs:List (Str × Int),ZV (rs.map nr)=some rs
 | []=>rfl
 | p::rs=>by rw[List.map_cons,ZV,JdB,Jbw rs];rfl
theorem Jaf:∀{ds:List D} {rs:List (Str × Int)},ZV ds=some rs→ds=rs.map nr
 | [],rs,h=>by cases h;rfl
 | d::ds,rs,h=>by
  rw[ZV]at h
  obtain⟨p,h1,h⟩:=Option.bind_eq_some_iff.mp h
  obtain⟨r,h2,rfl⟩:=Option.map_eq_some_iff.mp h
  rw[List.map_cons,←Jdx h1,←Jaf h2]
def vlN (rs:List (Str × Int)) (n:Str):Int:=((rs.find? fun p=>p.1 == n).map (·.2)).getD 0
theorem Jc5:∀{rs:List (Str × Int)},(rs.map (·.1)).Nodup→∀p∈rs,p.2=vlN rs p.1
 | [],_,p,h=>nomatch h
 | q::rs,nd,p,h=>by
  rw[List.map_cons]at nd
  obtain⟨n1,n2⟩:=List.nodup_cons.mp nd
  unfold vlN
  rcases List.mem_cons.mp h with z | z
  ·subst z;simp
  ·have ne:¬ q.1=p.1:=fun e=>n1 (e ▸ List.mem_map.mpr ⟨p,z,rfl⟩)
   rw[List.find?_cons_of_neg (by simpa using ne)]
   exact Jc5 n2 p z
def cdN (ns:List Str) (rs:List (Str × Int)):Bool:=decide ((rs.map (·.1)).Nodup∧(∀s∈rs.map (·.1),s∈ns)∧rs.length=ns.length)
def outN (js:List Jn) (t:Int) (P:Str→Int):Bool:=js.all fun j=>decide (cnt t (P j.2.1 - P j.1 - j.2.2)=0)
def RB (ns:List Str) (js:List Jn) (t:Int) (ds:List D):Bool:=match ZV ds with
 | some rs=>cdN ns rs && outN js t (vlN rs)
 | none=>false
def RBs (ns:List Str) (js:List Jn) (t:Int) (R:D):Bool:=isL R && match UV R with
 | some ds=>RB ns js t ds
 | none=>false
def rw1:D→Bool
 | .tup [_,b]=>isW b
 | _=>false
def fst0:D→D
 | .tup (a::_)=>a
 | _=>.non
theorem JaO:∀{ds:List D} {l:List Str},ds.all rw1=true→ds.map fst0=l.map D.str→∃rs:List (Str × Int),ds=rs.map nr∧rs.map (·.1)=l
 | [],l,_,h=>by cases l with
  | nil=>exact⟨[],rfl,rfl⟩
  | cons=>cases h
 | d::ds,l,h1,h2=>by
  rw[List.all_cons,Bool.and_eq_true]at h1
  cases l with
  | nil=>cases h2
  | cons s l =>
   rw[List.map_cons,List.map_cons]at h2
   injection h2 with e1 e2
   obtain⟨rs,q1,q2⟩:=JaO h1.2 e2
   have h3:=h1.1
   unfold rw1 at h3
   split at h3
   ·rename_i a b
    cases b<;>simp[isW]at h3
    rename_i i
    have ea:a=.str s:=e1
    refine⟨(s,i)::rs,?_,by rw[List.map_cons,q2]⟩
    rw[List.map_cons,←q1,ea];rfl
   ·cases h3
theorem rw1_nr (rs:List (Str × Int)):(rs.map nr).all rw1=true:=by
 rw[List.all_eq_true]
 intro d hd
 obtain⟨p,_,rfl⟩:=List.mem_map.mp hd
 rfl
theorem Jcs:∀rs:List (Str × Int),Zb (rs.map nr)=some (rs.map fun p=>((Sum.inr p.1:Key),D.int p.2))
 | []=>rfl
 | p::rs=>by
  have ih:=Jcs rs
  rw[List.map_cons,List.map_cons]
  show ((D.str p.1).key.bind fun k=>(Zb (rs.map nr)).map fun r=>(k,D.int p.2)::r)=_
  rw[ih];rfl
theorem Ja0 (rs:List (Str × Int)):imms (rs.map nr)=true:=Ut (fun _=>rfl) rs
theorem dict_nr {rs:List (Str × Int)} {P:Str→Int} (nd:(rs.map (·.1)).Nodup) (hv:∀p∈rs,p.2=P p.1) (g:Fl):ZS [.lst g (rs.map nr)]=some (dN .m (rs.map (·.1)) P):=by
 have i1:=Ja0 rs
 have hp:=Jcs rs
 rw[Jbs]
 show (if imms (rs.map nr)=true then (Zb (rs.map nr)).map (fun ps=>D.dct .m (mkD ps).1 (mkD ps).2) else none)=_
 rw[if_pos i1,hp,Option.map_some]
 have hn:((rs.map fun p:Str × Int=>((Sum.inr p.1:Key),D.int p.2)).map (·.1)).Nodup:=by
  rw[List.map_map]
  have:(rs.map ((fun x:Key × D=>x.1)∘fun p:Str × Int=>((Sum.inr p.1:Key),D.int p.2)))=(rs.map (·.1)).map Sum.inr:=by rw[List.map_map];rfl
  rw[this]
  exact List.Pairwise.map _ (fun x y h e=>h (by cases e;rfl)) nd
 have e3:=Jee (rs.map fun p:Str × Int=>((Sum.inr p.1:Key),D.int p.2)) ([],[]) (by simpa using hn)
 have e4:mkD (rs.map fun p:Str × Int=>((Sum.inr p.1:Key),D.int p.2))=((rs.map (·.1)).map Sum.inr,(rs.map (·.1)).map fun n=>D.int (P n)):=by
  show List.foldl (fun (acc:List Key × List D) (p:Key × D)=>putP acc p.1 p.2) ([],[]) _=_
  rw[e3]
  refine Prod.ext ?_ ?_
  ·show []++_=_
   rw[List.nil_append,List.map_map,List.map_map];rfl
  ·show []++(rs.map fun p:Str × Int=>((Sum.inr p.1:Key),D.int p.2)).map (·.2)=(rs.map (·.1)).map fun n=>D.int (P n)
   rw[List.nil_append,List.map_map,List.map_map]
   exact List.map_congr_left fun p hp=>by
    show D.int p.2=D.int (P p.1)
    rw[hv p hp]
 rw[e4];rfl
theorem Jbz {ns:List Str} {rs:List (Str × Int)} (h:cdN ns rs=true):(rs.map (·.1)).Nodup∧(∀m∈ns,m∈rs.map (·.1)):=by
 obtain⟨h1,h2,h3⟩:=of_decide_eq_true h
 refine⟨h1,fun m hm=>?_⟩
 refine Classical.byContradiction fun hc=>?_
 have nd:(m::rs.map (·.1)).Nodup:=List.nodup_cons.mpr ⟨hc,h1⟩
 have:=YD (ys:=ns) nd fun x hx=>(List.mem_cons.mp hx).elim (fun e=>e ▸ hm) (h2 x)
 simp at this
 omega
theorem Jey {ns:List Str}:∀{l:List Str},(∀s∈l,s∈ns)→(l.map D.str).all (isNm ns)=true
 | [],_=>rfl
 | s::l,h=>by
  rw[List.map_cons,List.all_cons,Jey fun x hx=>h x (by simp[hx])]
  have:=h s (by simp)
  simp[isNm,this]
theorem pln_map {ds:List D} {n:Nat} (h:∀d∈ds,pln n d=true) (hl:ds.length≤1000000):pln (n+1) (.lst .l ds)=true:=by
 show (decide (ds.length≤1000000) && ds.all (pln n))=true
 rw[decide_eq_true hl,Bool.true_and,List.all_eq_true];exact h
section
variable {ns:List Str} {js:List Jn} {t:Int} {dn dj:D}
theorem Hold.srcJ (h:Hold jt js dj) (i:Nat) {env:Env} (e:env[i]?=some (some dj)):JI (cVar i) env=.ok (js.map jt) env:=by
 have ij:=JbG js
 cases h<;>simp[e,ij]
theorem JbZ (h:pln 6 d=true) (hr:isR 2 d=true):∃a b,d=.tup [a,b]∧pln 5 a=true∧pln 5 b=true:=by
 cases d<;>simp[isR]at hr
 rename_i ds
 obtain⟨_,h2⟩:=Ja2 h
 match ds,hr with
 | [a,b],_=>exact⟨a,b,rfl,h2 a (by simp),h2 b (by simp)⟩
theorem v_shows_any (hn:HSt ns dn) (hnl':dn.lend=dn) (hdj:Hold jt js dj) (hnl:ns.length≤1000) (hjl:js.length≤1000) (h0:0≤t) (h1:t≤1000) (hone:∀j∈js,j.1∈ns) (hoth:∀j∈js,j.2.1∈ns) {Pd:D} (hp:pln 7 Pd.thaw=true) (hsz:∀ds,UV Pd.thaw=some ds→ds.length≤900)
  (hdc:∀rs:List (Str × Int),isL Pd.thaw=true→UV Pd.thaw=some (rs.map nr)→Jaq [Pd]=ZS [.lst .l (rs.map nr)]) :
  YK [dn,dj,.int t,Pd]=.ok (.bl (RBs ns js t Pd.thaw)) []:=by
 generalize hR:Pd.thaw=R at *
 let E:Option D→Env:=fun o5=>[some dn,some dj,some (.int t),some Pd,none,o5,none,none,none]
 have th:∀o5,(YY (cVar 3)) (E o5)=.ok R (E o5):=fun o5=>by simp[E,hR]
 have lR:=(YI hp).2
 have iR:=(YI hp).1
 have vl:=JbQ hp
 have vlE:∀o5,(Jo Yn (aRo (YY (cVar 3)) aNil)) (E o5)=.ok (.bl (isL R)) (E o5):=fun o5=>by
  have th':=th o5
  generalize YY (cVar 3)=CT at *
  generalize E o5=EE at *
  simp[th',lR,vl]
 cases hL:isL R with
 | false =>
  have e:RBs ns js t R=false:=by unfold RBs;rw[hL];rfl
  rw[e]
  refine Uz (env0:=E none) (env:=E none) ⟨rfl,by decide⟩ rfl ?_ rfl
  unfold YS
  refine ZQ (JbF (env1:=E none) ?_ rfl)
  have v0:=vlE none
  rw[hL]at v0
  simp[-Ja7,v0]
 | true =>
 obtain⟨ds,sq,hd,hx,hz,_⟩:=Jac hp hL
 have hz9:=hsz ds sq
 have hzz:ds.length≤sizeLine:=UG (by omega)
 have eRB:RBs ns js t R=RB ns js t ds:=by unfold RBs;rw[hL,sq];rfl
 rw[eRB]
 have ids:imms ds=true:=Uj fun d hd=>(YI (hx d hd)).1
 have srcR:∀o5,JI (YY (cVar 3)) (E o5)=.ok ds (E o5):=fun o5=>by
  have th':=th o5
  generalize YY (cVar 3)=CT at *
  generalize E o5=EE at *
  rcases hd with rfl | rfl<;>simp[th',ids]
 have lenR:pLen [R]=some (.int (ds.length:Nat)):=by
  rcases hd with rfl | rfl<;>simp[pLen,hzz]
 have l1:=JaA (vs:=[4]) (g:=gSet 4) (ce:=cAnd (Jo Yb (aRo (cVar 4) (aRo (cK (.int 2)) aNil))) (Jo Yy (aRo (cIdx (cVar 4) (cK (.int 1))) aNil))) (env:=E none) (y:=fun d=>.bl (rw1 d)) (ds:=ds) fun d hm=>by
  have px:=hx d hm
  have v2:=v_is_row_of px 2
  have ln:=(YI px).2
  refine⟨[some dn,some dj,some (.int t),some Pd,some d,none,none,none,none],rfl,rfl,?_,rfl⟩
  have v2':Yb [d,.int 2]=.ok (.bl (isR 2 d)) []:=v2
  cases hr:isR 2 d with
  | false =>
   have e:rw1 d=false:=by
    unfold rw1
    split
    ·rename_i a b;simp[isR]at hr
    ·rfl
   rw[hr]at v2'
   rw[e]
   simp[ln,v2']
  | true =>
   obtain⟨a,b,rfl,pa,pb⟩:=JbZ px hr
   have v3:=v_is_whole pb
   have lb:=(YI pb).2
   have ib:=(YI pb).1
   have ia:=(YI pa).1
   have e:rw1 (.tup [a,b])=isW b:=rfl
   have a1:ixD (.tup [a,b]) (.int 1)=some b:=rfl
   rw[hr]at v2'
   rw[e]
   generalize D.tup [a,b]=Q at *
   simp[ln,a1,v2',lb,v3]
 have em1:(ds.map fun d=>D.bl (rw1 d))=(ds.map rw1).map D.bl:=by rw[List.map_map];rfl
 rw[em1]at l1
 have al1:pAll [.lst .m ((ds.map rw1).map D.bl)]=some (.bl (ds.all rw1)):=by rw[Jbp,List.all_map];rfl
 have t1:cLc (JI (YY (cVar 3))) [4] (gSet 4) cYes (cAnd (Jo Yb (aRo (cVar 4) (aRo (cK (.int 2)) aNil))) (Jo Yy (aRo (cIdx (cVar 4) (cK (.int 1))) aNil))) (E none)=.ok (.lst .m ((ds.map rw1).map D.bl)) (E none):=by
  rw[e_lc,srcR]
  have w:Yv (E none) [4]=E none:=rfl
  have cl:UR (E none) [4]=true:=rfl
  have bk:Uy (E none) (E none) [4]=E none:=rfl
  simp only[VS.R.bind,cl,hzz,and_self,if_true,w,l1,bk]
 have v0:=vlE none
 rw[hL]at v0
 cases hr1:ds.all rw1 with
 | false =>
  have e:RB ns js t ds=false:=by
   unfold RB
   cases q:ZV ds with
   | none=>rfl
   | some rs=>rw[Jaf q,rw1_nr]at hr1;cases hr1
  rw[e]
  rw[hr1]at al1
  refine Uz (env0:=E none) (env:=E none) ⟨rfl,by decide⟩ rfl ?_ rfl
  unfold YS
  refine ZQ (JbF (env1:=E none) ?_ rfl)
  simp[-e_lc,-Qf,-Jdt,-Ja7,-List.map_map,t1,al1,v0]
 | true =>
 rw[hr1]at al1
 have two:∀d∈ds,∃a b,d=.tup [a,b]∧pln 5 a=true∧pln 5 b=true:=fun d hm=>by
  refine JbZ (hx d hm) ?_
  have:=List.all_eq_true.mp hr1 d hm
  unfold rw1 at this
  split at this
  ·rfl
  ·cases this
 have l2:=JaA (vs:=[4]) (g:=gSet 4) (ce:=cImm (cIdx (cVar 4) (cK (.int 0)))) (env:=E none) (y:=fst0) (ds:=ds) fun d hm=>by
  obtain⟨a,b,rfl,pa,pb⟩:=two d hm
  refine⟨[some dn,some dj,some (.int t),some Pd,some (.tup [a,b]),none,none,none,none],rfl,rfl,?_,rfl⟩
  have a0:ixD (.tup [a,b]) (.int 0)=some a:=rfl
  have ia:=(YI pa).1
  have ef:fst0 (.tup [a,b])=a:=rfl
  rw[ef]
  generalize D.tup [a,b]=Q at *
  simp[a0,ia]
 have t2:cLc (JI (YY (cVar 3))) [4] (gSet 4) cYes (cImm (cIdx (cVar 4) (cK (.int 0)))) (E none)=.ok (.lst .m (ds.map fst0)) (E none):=by
  rw[e_lc,srcR]
  have w:Yv (E none) [4]=E none:=rfl
  have cl:UR (E none) [4]=true:=rfl
  have bk:Uy (E none) (E none) [4]=E none:=rfl
  simp only[VS.R.bind,cl,hzz,and_self,if_true,w,l2,bk]
 have pf:∀d∈ds.map fst0,pln 5 d=true:=fun d hm=>by
  obtain⟨x,hx',rfl⟩:=List.mem_map.mp hm
  obtain⟨a,b,rfl,pa,_⟩:=two x hx'
  exact pa
 have lf:lends (ds.map fst0)=ds.map fst0:=QE fun d hm=>(YI (pf d hm)).2
 have iff':imms (ds.map fst0)=true:=Uj fun d hm=>(YI (pf d hm)).1
 have pF:pln 6 (.lst .l (ds.map fst0))=true:=pln_map pf (by rw[List.length_map];omega)
 have so:=v_some_of hn pF (fun xs e=>by cases e;rw[List.length_map];omega)
 have so':∃b,JU [dn,.lst .l (ds.map fst0)]=.ok (.bl b) []∧(b=true→∃l:List Str,ds.map fst0=l.map D.str∧l.Nodup∧∀s∈l,s∈ns)∧∀l:List Str,ds.map fst0=l.map D.str→l.Nodup→(∀s∈l,s∈ns)→b=true:=by
  have inj:∀{l l':List Str},l.map D.str=l'.map D.str→l=l':=fun h=>(List.map_inj_right (f:=D.str) fun a b h=>by injection h).mp h
  rcases so with ⟨e,h⟩ | ⟨l',g1,_,g3,_,e⟩
  ·refine⟨false,e,(fun z=>by cases z),fun l e1 _ hl=>?_⟩
   rcases h with h | ⟨xs,e2,_,h⟩
   ·cases h
   ·cases e2
    rw[e1,Jey hl]at h;cases h
  ·have e2:ds.map fst0=l'.map D.str:=by have:=g1.seq;injection this
   refine⟨decide l'.Nodup,e,fun z=>⟨l',e2,of_decide_eq_true z,g3⟩,fun l e3 nd _=>decide_eq_true ?_⟩
   have:l=l':=inj (e3.symm.trans e2)
   rw[←this];exact nd
 obtain⟨b,so1,so2,so3⟩:=so'
 have hLn:=hn.len
 have tst1:(tcOr (UE (cTt (Jo Yn (aRo (YY (cVar 3)) aNil)))) (UE (cTt (cL pAll (Jb (cLc (JI (YY (cVar 3))) [4] (gSet 4) cYes (cAnd (Jo Yb (aRo (cVar 4) (aRo (cK (.int 2)) aNil))) (Jo Yy (aRo (cIdx (cVar 4) (cK (.int 1))) aNil)))) cNil))))) (E none)=.ok false (E none):=by
  simp[-e_lc,-Qf,-Jdt,-Ja7,-List.map_map,t1,al1,v0]
 have e1:(Jo JU (aRo (cVar 0) (aRo (cLc (JI (YY (cVar 3))) [4] (gSet 4) cYes (cImm (cIdx (cVar 4) (cK (.int 0))))) aNil))) (E none)=.ok (.bl b) (E none):=by
  have g0:(E none)[0]?=some (some dn):=rfl
  simp[-e_lc,-Qf,-List.map_map,t2,g0,hnl',lf,so1]
 have e2:(c2 pNe (cL pLen (Jb (YY (cVar 3)) cNil)) (cL pLen (Jb (cVar 0) cNil))) (E none)=.ok (.bl (!decide (ds.length=ns.length))) (E none):=by
  have g0:(E none)[0]?=some (some dn):=rfl
  have th':=th none
  generalize YY (cVar 3)=CT at *
  generalize E none=EE at *
  by_cases q:ds.length=ns.length
  ·simp[th',lenR,g0,hLn,q]
  ·have q':¬ ((ds.length:Nat):Int)=(ns.length:Nat):=by omega
   simp[th',lenR,g0,hLn,q,q']
 have tst2:(tcOr (UE (cTt (Jo JU (aRo (cVar 0) (aRo (cLc (JI (YY (cVar 3))) [4] (gSet 4) cYes (cImm (cIdx (cVar 4) (cK (.int 0))))) aNil))))) (cTt (c2 pNe (cL pLen (Jb (YY (cVar 3)) cNil)) (cL pLen (Jb (cVar 0) cNil))))) (E none)=.ok (!(b && decide (ds.length=ns.length))) (E none):=by
  cases b<;>simp[-e_lc,-Qf,-Ja7,-e_2,e1,e2]
 cases hb:(b && decide (ds.length=ns.length)) with
 | false =>
  have e:RB ns js t ds=false:=by
   unfold RB
   cases q:ZV ds with
   | none=>rfl
   | some rs =>
    have eds:=Jaf q
    show (cdN ns rs && outN js t (vlN rs))=false
    cases c:cdN ns rs with
    | false=>rfl
    | true =>
     obtain⟨c1,c2',c3⟩:=of_decide_eq_true c
     have ef:ds.map fst0=(rs.map (·.1)).map D.str:=by rw[eds,List.map_map,List.map_map];rfl
     rw[so3 _ ef c1 c2']at hb
     rw[eds,List.length_map,decide_eq_true c3]at hb
     cases hb
  rw[e]
  rw[hb]at tst2
  refine Uz (env0:=E none) (env:=E none) ⟨rfl,by decide⟩ rfl ?_ rfl
  unfold YS
  exact Jy (env1:=E none) (Jby tst1 rfl) (ZQ (JbF (env1:=E none) tst2 rfl))
 | true =>
 rw[hb]at tst2
 rw[Bool.and_eq_true,decide_eq_true_eq]at hb
 obtain⟨l,f1,f2,f3⟩:=so2 hb.1
 obtain⟨rs,eds,rfl⟩:=JaO hr1 f1
 have hcd:cdN ns rs=true:=decide_eq_true ⟨f2,f3,by have:=hb.2;rwa[eds,List.length_map]at this⟩
 have e:RB ns js t ds=outN js t (vlN rs):=by
  unfold RB
  rw[eds,Jbw]
  show (cdN ns rs && outN js t (vlN rs))=_
  rw[hcd];rfl
 rw[e]
 have dn':=dict_nr f2 (Jc5 f2) .l
 have hdc':=hdc rs hL (by rw[sq,eds])
 rw[dn']at hdc'
 have inr:=(Jbz hcd).2
 have l3:=Jdz (f:=jt) (vs:=[6,7,8]) (g:=UF 3 (JA (gSet 6) (JA (gSet 7) (JA (gSet 8) UO)))) (ce:=c2 pEq (Jo Uh (aRo (cVar 2) (aRo (c2 pSub (c2 pSub (cIdx (cVar 5) (cVar 7)) (cIdx (cVar 5) (cVar 6))) (cVar 8)) aNil))) (cK (.int 0))) (env:=E (some (dN .m (rs.map (·.1)) (vlN rs)))) (y:=fun j=>.bl (decide (cnt t (vlN rs j.2.1 - vlN rs j.1 - j.2.2)=0))) (xs:=js) fun j hj=>by
  have x1:=Ja8 (o:=vlN rs) (inr _ (hone j hj))
  have x2:=Ja8 (o:=vlN rs) (inr _ (hoth j hj))
  have vc:=v_cnt h0 h1 (vlN rs j.2.1 - vlN rs j.1 - j.2.2)
  refine⟨[some dn,some dj,some (.int t),some Pd,none,some (dN .m (rs.map (·.1)) (vlN rs)),some (.str j.1),some (.str j.2.1),some (.int j.2.2)],rfl,rfl,?_,rfl⟩
  generalize dN .m (rs.map (·.1)) (vlN rs)=DD at *
  by_cases q:cnt t (vlN rs j.2.1 - vlN rs j.1 - j.2.2)=0
  ·rw[q]at vc
   simp[x1,x2,vc,q]
  ·simp[x1,x2,vc,q]
 have em3:(js.map fun j=>D.bl (decide (cnt t (vlN rs j.2.1 - vlN rs j.1 - j.2.2)=0)))=(js.map fun j=>decide (cnt t (vlN rs j.2.1 - vlN rs j.1 - j.2.2)=0)).map D.bl:=by rw[List.map_map];rfl
 rw[em3]at l3
 have al3:pAll [.lst .m ((js.map fun j=>decide (cnt t (vlN rs j.2.1 - vlN rs j.1 - j.2.2)=0)).map D.bl)]=some (.bl (outN js t (vlN rs))):=by rw[Jbp,List.all_map];rfl
 have hzj:(js.map jt).length≤sizeLine:=by rw[List.length_map];exact UG (by omega)
 have t3:cLc (JI (cVar 1)) [6,7,8] (UF 3 (JA (gSet 6) (JA (gSet 7) (JA (gSet 8) UO)))) cYes (c2 pEq (Jo Uh (aRo (cVar 2) (aRo (c2 pSub (c2 pSub (cIdx (cVar 5) (cVar 7)) (cIdx (cVar 5) (cVar 6))) (cVar 8)) aNil))) (cK (.int 0))) (E (some (dN .m (rs.map (·.1)) (vlN rs))))=.ok (.lst .m ((js.map fun j=>decide (cnt t (vlN rs j.2.1 - vlN rs j.1 - j.2.2)=0)).map D.bl)) (E (some (dN .m (rs.map (·.1)) (vlN rs)))):=by
  have src:JI (cVar 1) (E (some (dN .m (rs.map (·.1)) (vlN rs))))=.ok (js.map jt) (E (some (dN .m (rs.map (·.1)) (vlN rs)))):=hdj.srcJ 1 rfl
  rw[e_lc,src]
  have w:Yv (E (some (dN .m (rs.map (·.1)) (vlN rs)))) [6,7,8]=E (some (dN .m (rs.map (·.1)) (vlN rs))):=rfl
  have cl:UR (E (some (dN .m (rs.map (·.1)) (vlN rs)))) [6,7,8]=true:=rfl
  have bk:Uy (E (some (dN .m (rs.map (·.1)) (vlN rs)))) (E (some (dN .m (rs.map (·.1)) (vlN rs)))) [6,7,8]=E (some (dN .m (rs.map (·.1)) (vlN rs))):=rfl
  simp only[VS.R.bind,cl,hzj,and_self,if_true,w,l3,bk]
 refine Uz (env0:=E none) (env:=E (some (dN .m (rs.map (·.1)) (vlN rs)))) ⟨rfl,by decide⟩ rfl ?_ rfl
 unfold YS
 refine Jy (env1:=E none) (Jby tst1 rfl) (Jy (env1:=E none) (Jby tst2 rfl) (Jy (env1:=E (some (dN .m (rs.map (·.1)) (vlN rs)))) ?_ ?_))
 ·have g3:(E none)[3]?=some (some Pd):=rfl
  have g5:(E none).set 5 (some (dN .m (rs.map (·.1)) (vlN rs)))=E (some (dN .m (rs.map (·.1)) (vlN rs))):=rfl
  generalize dN .m (rs.map (·.1)) (vlN rs)=DD at *
  generalize hE0:E none=E0 at *
  generalize hE1:E (some DD)=E1 at *
  simp[g3,hdc',g5]
 ·simp[-e_lc,-Qf,-List.map_map,t3,al3]
end
end VS
namespace VS
open PySem L2 SeqAt
theorem st_dN2 {td:List Str} {o:Str→Int} {a:Str} (nd:td.Nodup) (hl:td.length < 100000) (x:Int):stD (dN .m td o) (.str a) (.int x)=some (dN .m (if a∈td then td else td++[a]) (upI o a x)):=by
 have e:(fun m=>D.int (upI o a x m))=up1 (fun m=>D.int (o m)) a (.int x):=by
  funext m;unfold up1 upI;split<;>rfl
 by_cases h:a∈td
 ·show ((D.str a).key.bind fun k=>if (td.map (Sum.inr:Str→Key)).length < sizeLine then some (putD (td.map Sum.inr) (td.map fun m=>D.int (o m)) k (.int x)) else none)=_
  rw[show (D.str a).key=some (Sum.inr a) from rfl,Option.bind_some,if_pos (by rw[List.length_map];exact JaN (by omega))]
  unfold putD
  rw[Jcr Sum.inr JaW,if_pos h,if_pos h]
  simp only
  rw[JcI td (fun m=>D.int (o m)) a (.int x) nd h,←e];rfl
 ·rw[if_neg h];exact JdA h (JaN (by omega)) x
theorem cnt_flip {t a b s:Int} (h0:0≤t):cnt t (a+s - b)=0↔cnt t (b - a - s)=0:=by
 unfold cnt
 split
 ·omega
 ·have e:a+s - b=-(b - a - s):=by omega
  rw[e]
  constructor
  ·intro h
   exact Int.emod_eq_zero_of_dvd (Int.dvd_neg.mp (Int.dvd_of_emod_eq_zero h))
  ·intro h
   exact Int.emod_eq_zero_of_dvd (Int.dvd_neg.mpr (Int.dvd_of_emod_eq_zero h))
theorem rowsD_none {ds:List D} {d:D} (hm:d∈ds) (h:toNr d=none):ZV ds=none:=by
 cases q:ZV ds with
 | none=>rfl
 | some rs =>
  have e:=Jaf q
  rw[e]at hm
  obtain⟨p,_,rfl⟩:=List.mem_map.mp hm
  rw[JdB]at h;cases h
theorem sort_dN (td:List Str) (o:Str→Int) (hl:td.length≤1000):JV [dN .m td o]=some (.lst .m ((Yq td).map D.str)):=by
 have e:JV [dN .m td o]=JV [.lst .m (td.map D.str)]:=by
  unfold dN JV
  simp only[JdR]
  congr 2
  rw[List.map_map];rfl
 rw[e];exact ZN hl
theorem ne_ss (g g':Fl) (a b:List Str):pNe (.lst g (a.map D.str)) (.lst g' (b.map D.str))=some (.bl (!decide (a=b))):=by
 have e:eqOk 40 (.lst g (a.map D.str))=true:=by unfold eqOk;exact YQ 39 a
 have e':eqOk 40 (.lst g' (b.map D.str))=true:=by unfold eqOk;exact YQ 39 b
 have p:pyEq (.lst g (a.map D.str)) (.lst g' (b.map D.str))=decide (a=b):=by unfold pyEq;exact QC a b
 unfold pNe;rw[e,e',p];rfl
def ED7 (dn dj:D) (t:Int) (R:D) (o4 o5:Option D):Env:=[some dn,some dj,some (.int t),some R,o4,o5,none,none,none]
section
variable {ns:List Str} {js:List Jn} {t:Int} {dn dj:D}
theorem JbO {n:Nat} {d:D} (h:pln n d=true):YL [d]=.ok (.bl (isW d)) []:=by
 have:=JcK h
 unfold YL JR Qx
 simp[-Jdt,-Je4,YG,Ue,JK,this]
theorem due_bad {R d:D} (h:pln 6 d=true) (hb:toNr d=none) (o4:Option D):Um (ED7 dn dj t R o4 (some d))=.rt (.bl false) (ED7 dn dj t R o4 (some d)):=by
 have p1:=pi_tup h
 have ln:=(YI h).2
 unfold Um
 refine ZQ (JbF (env1:=ED7 dn dj t R o4 (some d)) ?_ rfl)
 cases hT:isT d with
 | false =>
  rw[hT]at p1
  unfold ED7;simp[p1]
 | true =>
  rw[hT]at p1
  cases d<;>simp[isT]at hT
  rename_i ds
  obtain⟨hz,hx⟩:=Ja2 h
  have hzz:ds.length≤sizeLine:=UG (by omega)
  by_cases h2:ds.length=2
  ·match ds,h2 with
   | [a,b],_ =>
    have pa:=hx a (by simp)
    have pb:=hx b (by simp)
    have sa:=Jd9 pa
    have vb:=JbO pb
    have lb:=(YI pb).2
    have a0:ixD (.tup [a,b]) (.int 0)=some a:=rfl
    have a1:ixD (.tup [a,b]) (.int 1)=some b:=rfl
    have len:pLen [D.tup [a,b]]=some (.int 2):=rfl
    have e2:pNe (.int 2) (.int 2)=some (.bl false):=rfl
    have hw:isS a=true→isW b=false:=fun hs=>by
     cases a<;>simp[isS]at hs
     cases b<;>first | rfl | (simp[toNr]at hb)
    generalize D.tup [a,b]=Q at *
    unfold ED7
    cases hs:isS a with
    | false =>
     rw[hs]at sa
     simp[p1,len,a0,sa]
    | true =>
     rw[hs]at sa
     rw[hw hs]at vb
     simp[p1,len,a0,sa,a1,lb,vb]
  ·have e2:¬ ((ds.length:Nat):Int)=2:=by omega
   unfold ED7;simp[p1,hzz,e2]
theorem due_good {R:D} (p:Str × Int) {td:List Str} {o:Str→Int} (nd:td.Nodup) (hl:td.length < 100000):Um (ED7 dn dj t R (some (dN .m td o)) (some (nr p)))=.nx (ED7 dn dj t R (some (dN .m (if p.1∈td then td else td++[p.1]) (upI o p.1 p.2))) (some (nr p))):=by
 have s1:=st_dN2 (o:=o) (a:=p.1) nd hl p.2
 have p1:pIsi [nr p,.ty "tuple"]=some (.bl true):=rfl
 have a0:ixD (nr p) (.int 0)=some (.str p.1):=rfl
 have a1:ixD (nr p) (.int 1)=some (.int p.2):=rfl
 have len:pLen [nr p]=some (.int 2):=rfl
 have sa:pIsi [.str p.1,.ty "str"]=some (.bl true):=rfl
 have vb:=JbO (n:=1) (d:=.int p.2) rfl
 have ew:isW (.int p.2)=true:=rfl
 rw[ew]at vb
 unfold Um
 generalize nr p=Q at *
 generalize dN .m (if p.1∈td then td else td++[p.1]) (upI o p.1 p.2)=D2 at *
 generalize dN .m td o=D1 at *
 refine Jy (env1:=ED7 dn dj t R (some D1) (some Q)) (Jby (env1:=ED7 dn dj t R (some D1) (some Q)) ?_ rfl) ?_
 ·unfold ED7;simp[p1,len,a0,sa,a1,vb]
 ·unfold ED7;simp[a0,a1,lVar,s1]
theorem v_due_any (hn:HSt ns dn) (hnd:ns.Nodup) (hdj:Hold jt js dj) (hnl:ns.length≤900) (hjl:js.length≤1000) (h0:0≤t) (h1:t≤1000) (hone:∀j∈js,j.1∈ns) (hoth:∀j∈js,j.2.1∈ns) {R:D} (hp:pln 7 R=true) (hsz:∀ds,UV R=some ds→ds.length≤900) :
  UN [dn,dj,.int t,R]=.ok (.bl (RBs ns js t R)) []:=by
 have iR:=(YI hp).1
 have pl:=Je3 hp
 cases hL:isL R with
 | false =>
  have e:RBs ns js t R=false:=by unfold RBs;rw[hL];rfl
  rw[e]
  rw[hL]at pl
  refine Uz (env0:=ED7 dn dj t R none none) (env:=ED7 dn dj t R none none) ⟨rfl,by decide⟩ rfl ?_ rfl
  unfold Zh
  refine ZQ (JbF (env1:=ED7 dn dj t R none none) ?_ rfl)
  unfold ED7;simp[pl]
 | true =>
 rw[hL]at pl
 obtain⟨ds,sq,hd,hx,hz,src⟩:=Jac hp hL
 have hz9:=hsz ds sq
 have hzz:ds.length≤sizeLine:=UG (by omega)
 have eRB:RBs ns js t R=RB ns js t ds:=by unfold RBs;rw[hL,sq];rfl
 rw[eRB]
 have lenR:pLen [R]=some (.int (ds.length:Nat)):=by
  rcases hd with rfl | rfl<;>simp[pLen,hzz]
 have s0:(sIf (UE (cTt (cL pIsi (Jb (cVar 3) (Jb (cTup (Jb (cK (.ty "list")) (Jb (cK (.ty "tuple")) cNil))) cNil))))) (sRet (cK (.bl false))) sNil) (ED7 dn dj t R none none)=.nx (ED7 dn dj t R none none):=by
  refine Jby (env1:=ED7 dn dj t R none none) ?_ rfl
  unfold ED7;simp[pl]
 have s1:(sAsg (cK (.dct .m [] [])) (gSet 4)) (ED7 dn dj t R none none)=.nx (ED7 dn dj t R (some (dN .m [] fun _=>0)) none):=rfl
 have hloop:=JdD (f:=fun d:D=>d) (g:=gSet 5) (body:=Um)
  (fun rest env=>∃(td:List Str) (o:Str→Int) (o5:Option D) (rd:List (Str × Int)),env=ED7 dn dj t R (some (dN .m td o)) o5∧rd.map nr++rest=ds∧td.Nodup∧(∀m,m∈td↔m∈rd.map (·.1))∧td.length≤rd.length∧((rd.map (·.1)).Nodup→∀p∈rd,o p.1=p.2))
  (fun r env=>r=.bl false∧(∃o4 o5,env=ED7 dn dj t R o4 o5)∧ZV ds=none)
  (fun d rest env ⟨td,o,o5,rd,e,hds,nd,hm,hln,ho⟩=>by
   have hmd:d∈ds:=by rw[←hds];simp
   have px:=hx d hmd
   refine⟨ED7 dn dj t R (some (dN .m td o)) (some d),by rw[e];rfl,?_⟩
   cases hq:toNr d with
   | none=>exact .inr ⟨.bl false,_,due_bad px hq _,rfl,⟨_,_,rfl⟩,rowsD_none hmd hq⟩
   | some p =>
    have ed:=Jdx hq
    subst ed
    have hrl:rd.length≤900:=by have:=congrArg List.length hds;simp at this;omega
    refine .inl ⟨_,due_good p nd (by omega),_,_,_,rd++[p],rfl,by rw[List.map_append,List.append_assoc];exact hds,?_,fun m=>?_,?_,fun hnd2 q hq2=>?_⟩
    ·by_cases h:p.1∈td
     ·rw[if_pos h];exact nd
     ·rw[if_neg h,List.nodup_append]
      exact⟨nd,by simp,fun a ha b hb=>by simp at hb;subst hb;exact fun e=>h (e ▸ ha)⟩
    ·rw[List.map_append,List.mem_append,←hm m]
     by_cases h:p.1∈td
     ·rw[if_pos h]
      exact⟨.inl,fun z=>z.elim id fun z=>by simp at z;rw[z];exact h⟩
     ·rw[if_neg h,List.mem_append];simp
    ·by_cases h:p.1∈td
     ·rw[if_pos h];simp;omega
     ·rw[if_neg h];simp;omega
    ·rw[List.map_append,List.nodup_append]at hnd2
     obtain⟨n1,_,n3⟩:=hnd2
     unfold upI
     rcases List.mem_append.mp hq2 with z | z
     ·have ne:¬ q.1=p.1:=n3 q.1 (List.mem_map.mpr ⟨q,z,rfl⟩) p.1 (by simp)
      rw[if_neg ne];exact ho n1 q z
     ·have:q=p:=by simpa using z
      subst this;rw[if_pos rfl])
  ds (ED7 dn dj t R (some (dN .m [] fun _=>0)) none) ⟨[],fun _=>0,none,[],rfl,rfl,List.nodup_nil,(fun m=>by simp),Nat.le_refl _,fun _ p hp=>nomatch hp⟩
 rw[show ds.map (fun d:D=>d)=ds from List.map_id' ds]at hloop
 have sc:=src (ED7 dn dj t R (some (dN .m [] fun _=>0)) none) 3 rfl
 rcases hloop with ⟨env',f1,td,o,o5,rd,rfl,hds,nd,hm,hln,ho⟩ | ⟨r,env',f1,rfl,⟨o4,o5,rfl⟩,hno⟩
 case inr =>
  have e:RB ns js t ds=false:=by unfold RB;rw[hno]
  rw[e]
  refine Uz (env0:=ED7 dn dj t R none none) (env:=ED7 dn dj t R o4 o5) ⟨rfl,by decide⟩ rfl ?_ rfl
  unfold Zh
  refine Jy s0 (Jy s1 (ZQ ?_))
  rw[QD,sc];exact f1
 rw[List.append_nil]at hds
 have er:ZV ds=some rd:=by rw[←hds];exact Jbw rd
 have hrl:rd.length=ds.length:=by rw[←hds,List.length_map]
 have e:RB ns js t ds=(cdN ns rd && outN js t (vlN rd)):=by unfold RB;rw[er]
 rw[e]
 have st1:=sort_dN td o (by omega)
 have st2:JV [dn]=some (.lst .m ((Yq ns).map D.str)):=by
  cases hn
  ·exact ZN (by omega)
  ·exact ZN (by omega)
  ·exact sortG_tups (by omega)
 have hne:=ne_ss .m .m (Yq td) (Yq ns)
 have hLn:=hn.len
 have tst:(tcOr (cTt (c2 pNe (cL JV (Jb (cVar 4) cNil)) (cL JV (Jb (cVar 0) cNil)))) (cTt (c2 pNe (cL pLen (Jb (cVar 3) cNil)) (cL pLen (Jb (cVar 0) cNil))))) (ED7 dn dj t R (some (dN .m td o)) o5)=.ok (!(decide (Yq td=Yq ns) && decide (ds.length=ns.length))) (ED7 dn dj t R (some (dN .m td o)) o5):=by
  generalize dN .m td o=D1 at *
  unfold ED7
  by_cases q1:Yq td=Yq ns
  ·rw[decide_eq_true q1]at hne ⊢
   by_cases q2:ds.length=ns.length
   ·simp[st1,st2,hne,lenR,hLn,q2]
   ·have q2':¬ ((ds.length:Nat):Int)=(ns.length:Nat):=by omega
    simp[st1,st2,hne,lenR,hLn,q2,q2']
  ·rw[decide_eq_false q1]at hne ⊢
   simp[st1,st2,hne]
 have hkey:(decide (Yq td=Yq ns) && decide (ds.length=ns.length))=cdN ns rd:=by
  rw[Bool.eq_iff_iff,Bool.and_eq_true,decide_eq_true_eq,decide_eq_true_eq]
  constructor
  ·rintro ⟨q1,q2⟩
   have pm:td.Perm ns:=(YN td).symm.trans (q1 ▸ YN ns)
   have l1:=pm.length_eq
   refine decide_eq_true ⟨?_,fun s hs=>pm.mem_iff.mp ((hm s).mpr hs),by omega⟩
   refine (JdW (rd.map (·.1))).mp ?_
   rw[←ZP nd (Uw _) fun x=>by rw[UB];exact hm x,List.length_map];omega
  ·intro c
   obtain⟨c1,c2',c3⟩:=of_decide_eq_true c
   refine⟨sortS_eq ((List.perm_ext_iff_of_nodup nd hnd).mpr fun x=>?_),by omega⟩
   rw[hm x]
   exact⟨c2' x,(Jbz c).2 x⟩
 rw[hkey]at tst
 cases hc:cdN ns rd with
 | false =>
  rw[hc]at tst
  refine Uz (env0:=ED7 dn dj t R none none) (env:=ED7 dn dj t R (some (dN .m td o)) o5) ⟨rfl,by decide⟩ rfl ?_ rfl
  unfold Zh
  refine Jy s0 (Jy s1 (Jy (env1:=ED7 dn dj t R (some (dN .m td o)) o5) ?_ (ZQ (JbF tst rfl))))
  rw[QD,sc];exact f1
 | true =>
 rw[hc]at tst
 obtain⟨c1,c2'⟩:=Jbz hc
 have hov:∀m∈ns,m∈td∧o m=vlN rd m:=fun m hmn=>by
  have h1:=c2' m hmn
  obtain⟨p,hp,rfl⟩:=List.mem_map.mp h1
  exact⟨(hm _).mpr h1,by rw[ho c1 p hp];exact Jc5 c1 p hp⟩
 have l3:=Jdz (f:=jt) (vs:=[6,7,8]) (g:=UF 3 (JA (gSet 6) (JA (gSet 7) (JA (gSet 8) UO)))) (ce:=c2 pEq (Jo JX (aRo (cVar 2) (aRo (c2 pSub (c2 pAdd (cIdx (cVar 4) (cVar 6)) (cVar 8)) (cIdx (cVar 4) (cVar 7))) aNil))) (cK (.int 0))) (env:=ED7 dn dj t R (some (dN .m td o)) o5) (y:=fun j=>.bl (decide (cnt t (vlN rd j.2.1 - vlN rd j.1 - j.2.2)=0))) (xs:=js) fun j hj=>by
  obtain⟨m1,v1⟩:=hov _ (hone j hj)
  obtain⟨m2,v2⟩:=hov _ (hoth j hj)
  have x1:=Ja8 (o:=o) m1
  have x2:=Ja8 (o:=o) m2
  rw[v1]at x1
  rw[v2]at x2
  have vc:=v_lcnt h0 h1 (vlN rd j.1+j.2.2 - vlN rd j.2.1)
  have fl:=cnt_flip (a:=vlN rd j.1) (b:=vlN rd j.2.1) (s:=j.2.2) h0
  refine⟨[some dn,some dj,some (.int t),some R,some (dN .m td o),o5,some (.str j.1),some (.str j.2.1),some (.int j.2.2)],rfl,rfl,?_,rfl⟩
  generalize dN .m td o=DD at *
  by_cases q:cnt t (vlN rd j.2.1 - vlN rd j.1 - j.2.2)=0
  ·rw[fl.mpr q]at vc
   simp[x1,x2,vc,q]
  ·have q':=fun z=>q (fl.mp z)
   simp[x1,x2,vc,q]
   exact q'
 have em3:(js.map fun j=>D.bl (decide (cnt t (vlN rd j.2.1 - vlN rd j.1 - j.2.2)=0)))=(js.map fun j=>decide (cnt t (vlN rd j.2.1 - vlN rd j.1 - j.2.2)=0)).map D.bl:=by rw[List.map_map];rfl
 rw[em3]at l3
 have al3:pAll [.lst .m ((js.map fun j=>decide (cnt t (vlN rd j.2.1 - vlN rd j.1 - j.2.2)=0)).map D.bl)]=some (.bl (outN js t (vlN rd))):=by rw[Jbp,List.all_map];rfl
 have hzj:(js.map jt).length≤sizeLine:=by rw[List.length_map];exact UG (by omega)
 have t3:cLc (JI (cVar 1)) [6,7,8] (UF 3 (JA (gSet 6) (JA (gSet 7) (JA (gSet 8) UO)))) cYes (c2 pEq (Jo JX (aRo (cVar 2) (aRo (c2 pSub (c2 pAdd (cIdx (cVar 4) (cVar 6)) (cVar 8)) (cIdx (cVar 4) (cVar 7))) aNil))) (cK (.int 0))) (ED7 dn dj t R (some (dN .m td o)) o5)=.ok (.lst .m ((js.map fun j=>decide (cnt t (vlN rd j.2.1 - vlN rd j.1 - j.2.2)=0)).map D.bl)) (ED7 dn dj t R (some (dN .m td o)) o5):=by
  have src2:JI (cVar 1) (ED7 dn dj t R (some (dN .m td o)) o5)=.ok (js.map jt) (ED7 dn dj t R (some (dN .m td o)) o5):=hdj.srcJ 1 rfl
  rw[e_lc,src2]
  have w:Yv (ED7 dn dj t R (some (dN .m td o)) o5) [6,7,8]=ED7 dn dj t R (some (dN .m td o)) o5:=rfl
  have cl:UR (ED7 dn dj t R (some (dN .m td o)) o5) [6,7,8]=true:=rfl
  have bk:Uy (ED7 dn dj t R (some (dN .m td o)) o5) (ED7 dn dj t R (some (dN .m td o)) o5) [6,7,8]=ED7 dn dj t R (some (dN .m td o)) o5:=rfl
  simp only[VS.R.bind,cl,hzj,and_self,if_true,w,l3,bk]
 refine Uz (env0:=ED7 dn dj t R none none) (env:=ED7 dn dj t R (some (dN .m td o)) o5) ⟨rfl,by decide⟩ rfl ?_ rfl
 unfold Zh
 refine Jy s0 (Jy s1 (Jy (env1:=ED7 dn dj t R (some (dN .m td o)) o5) ?_ (Jy (env1:=ED7 dn dj t R (some (dN .m td o)) o5) (Jby tst rfl) ?_)))
 ·rw[QD,sc];exact f1
 ·simp[-e_lc,-Qf,-List.map_map,t3,al3]
end
end VS
namespace VS
open PySem L2 SeqAt
section
variable {ns:List Str} {js:List Jn} {t:Int}
theorem v_lnum7 (nd:ns.Nodup) (hns:ns.length≤1000) (hjs:js.length≤1000) (hone:∀j∈js,j.1∈ns) (hoth:∀j∈js,j.2.1∈ns) (hbd:∀j∈js,-1000000000000≤j.2.2∧j.2.2≤1000000000000) :
  ∃q:Q2,YT [.lst .l (ns.map D.str),.lst .l (js.map jt)]=.ok (dN .m q.1 q.2) []∧q.1.Nodup∧(∀m,m∈q.1↔m∈ns)∧Bd q:=by
 obtain⟨gs,ec,w⟩:=Jes (js:=js) nd hns hjs hone hoth
 obtain⟨gw,gin⟩:=w.grp
 obtain⟨q,p4,p5,p6,p7,p8,f1,qn,qm,qb,qr⟩:=ln_groups (t:=0) gw gin hns hjs hone hbd none none none none none
 refine⟨q,?_,qn,qm,qb⟩
 have hcl:(cl gs).length≤sizeLine:=by rw[Jen];have:=Qs w;exact Yr (by omega)
 have fx:=Jb3 (cl gs)
 have nr:=Jb6 (cl gs)
 have im:=Jds (cl gs)
 have src:JI (cFix (Jo JO (aRo (cVar 0) (aRo (cVar 1) aNil)))) (LN ns js 0 ([],fun _=>0) none none none none none)=.ok ((cl gs).map fR) (LN ns js 0 ([],fun _=>0) none none none none none):=by
  unfold LN;simp[ec,nr,fx,im]
 refine Uz (env0:=[some (.lst .l (ns.map D.str)),some (.lst .l (js.map jt)),none,none,none,none,none,none]) (env:=(LN ns js 0 q p4 p5 p6 p7 p8).set 2 none) ⟨rfl,by decide⟩ rfl ?_ (by rfl)
 unfold Qh
 refine Jy (env1:=LN ns js 0 ([],fun _=>0) none none none none none) (by unfold LN dN;simp) (Jy (env1:=LN ns js 0 q p4 p5 p6 p7 p8) (by rw[QD,src];exact f1) ?_)
 have im2:(dN .m q.1 q.2).imm=false:=rfl
 unfold LN
 generalize dN .m q.1 q.2=F at *
 simp[im2]
def RW7 (A:D) (ns:List Str) (js:List Jn) (t:Int) (N:D) (rs:List (Str × Int)) (o6 o7 o8 o9:Option D):Env:=[some A,some (.lst .l (ns.map D.str)),some (.lst .l (js.map jt)),some (.int t),some N,some (.lst .m (rs.map nr)),o6,o7,o8,o9]
theorem ins_nr {l:List (Str × Int)} (hl:l.length≤100000) {i:Int} (h0:0≤i) (h1:i≤l.length) (x:Str × Int):Qp (.lst .m (l.map nr)) [.int i,nr x]=some (.lst .m ((l.take i.toNat++[x]++l.drop i.toNat).map nr),.non):=by
 unfold Qp
 have:(l.map nr).length < sizeLine∧(0:Int)≤i∧i < 2 ^ 63:=⟨by rw[List.length_map];exact JaN (by omega),h0,by omega⟩
 simp only[if_pos this]
 rw[←List.map_take,←List.map_drop]
 simp
def QI (ns:List Str) (rs:List (Str × Int)):Prop:=∀p∈rs,p.1∈ns∧-100000000000000000≤p.2∧p.2≤100000000000000000
theorem row7_step (T:Tp) {q:Q2} (hq:∀m∈ns,m∈q.1∧-10000000000000000≤q.2 m∧q.2 m≤10000000000000000) (ht0:0≤t) (ht1:t≤1000) {x:Str} (hx:x∈ns) {off:Int} (ho:-10000000000≤off∧off≤10000000000) {rs:List (Str × Int)} (hr:QI ns rs) (hrl:rs.length≤1000) (o6 o9:Option D) :
  ∃rs' T' p9,UL (RW7 (tp T) ns js t (dN .m q.1 q.2) rs o6 (some (.int off)) (some (.str x)) o9)=.nx (RW7 (tp T') ns js t (dN .m q.1 q.2) rs' o6 (some (.int off)) (some (.str x)) p9)∧QI ns rs'∧rs'.length=rs.length+1:=by
 obtain⟨m1,b1,b2⟩:=hq x hx
 have d1:=Ya T (m:=3) (by decide) (by decide)
 have d2:=Ya (drT T 3) (m:=((rs.length:Nat):Int)+1) (by omega) (by omega)
 have p1:=Uf (t:=T) (m:=3) (by decide)
 have p2:=YE (t:=T) (m:=3) (by decide)
 have p3:=Uf (t:=drT T 3) (m:=((rs.length:Nat):Int)+1) (by omega)
 have p4:=YE (t:=drT T 3) (m:=((rs.length:Nat):Int)+1) (by omega)
 have x1:=Ja8 (o:=q.2) m1
 generalize drV T 3=v at *
 generalize drV (drT T 3) (((rs.length:Nat):Int)+1)=at1 at *
 generalize drT (drT T 3) (((rs.length:Nat):Int)+1)=T2 at *
 generalize drT T 3=T1 at *
 have hm:-1000≤t * (v - 1)∧t * (v - 1)≤1000:=by
  have:v=0∨v=1∨v=2:=by omega
  rcases this with e | e | e<;>subst e<;>omega
 generalize hz:t * (v - 1)=z at *
 have ins:=ins_nr (l:=rs) (by omega) p3 (by omega) (x,q.2 x+off+z)
 have hlr:(rs.map nr).length=rs.length:=List.length_map _
 have hzl:rs.length≤sizeLine:=UG (by omega)
 refine⟨rs.take at1.toNat++[(x,q.2 x+off+z)]++rs.drop at1.toNat,T2,some (nr (x,q.2 x+off+z)),?_,fun p hp=>?_,by simp;omega⟩
 ·have g1:-18446744073709551616 < t∧t < 18446744073709551616:=by omega
  have g2:-18446744073709551616 < v - 1∧v - 1 < 18446744073709551616:=by omega
  have en:nr (x,q.2 x+off+z)=.tup [.str x,.int (q.2 x+off+z)]:=rfl
  have inr':(nr (x,q.2 x+off+z)).imm=true:=rfl
  have k1:kdL (.lst .m (rs.map nr))=true:=rfl
  have i0:=Ur T
  have i1:=Ur T1
  have n1:=Ug T1
  have n2:=Ug T2
  have g3:t < 18446744073709551616:=by omega
  have g4:-18446744073709551616 < t:=by omega
  generalize dN .m q.1 q.2=DD at *
  generalize tp T=A0 at *
  generalize tp T1=A1 at *
  generalize tp T2=A2 at *
  unfold UL
  refine Jy (env1:=RW7 A1 ns js t DD rs o6 (some (.int off)) (some (.str x)) (some (nr (x,q.2 x+off+z)))) ?_ ?_
  ·rw[en]
   generalize rs.map nr=RR at *
   unfold RW7
   simp[x1,d1,i0,n1,g3,g4,hz]
  ·generalize nr (x,q.2 x+off+z)=Q at *
   unfold RW7
   simp[d2,hlr,hzl,i1,n2,lVar,k1,ins,inr']
 ·have hc:p∈rs∨p=(x,q.2 x+off+z):=by
   rcases List.mem_append.mp hp with w | w
   ·rcases List.mem_append.mp w with w | w
    ·exact .inl (List.mem_of_mem_take w)
    ·exact .inr (by simpa using w)
   ·exact .inl (List.mem_of_mem_drop w)
  rcases hc with w | w
  ·exact hr p w
  ·subst w;exact⟨hx,by simp only;omega,by simp only;omega⟩
theorem row7_group (T:Tp) {q:Q2} (hq:∀m∈ns,m∈q.1∧-10000000000000000≤q.2 m∧q.2 m≤10000000000000000) (ht0:0≤t) (ht1:t≤1000) {g:List Str} (hg:∀x∈g,x∈ns) {rs:List (Str × Int)} (hr:QI ns rs) (hrl:rs.length+g.length≤1000) (o7 o8 o9:Option D) :
  ∃rs' T' p7 p8 p9,UJ (RW7 (tp T) ns js t (dN .m q.1 q.2) rs (some (fR g)) o7 o8 o9)=.nx (RW7 (tp T') ns js t (dN .m q.1 q.2) rs' (some (fR g)) p7 p8 p9)∧QI ns rs'∧rs'.length=rs.length+g.length:=by
 have d1:=Ya T (m:=3) (by decide) (by decide)
 have p1:=Uf (t:=T) (m:=3) (by decide)
 have p2:=YE (t:=T) (m:=3) (by decide)
 generalize drV T 3=v at *
 generalize drT T 3=T1 at *
 have s3:3≤sizeLine:=Yr (by decide)
 obtain⟨off,ho,s1⟩:∃off:Int,(-10000000000≤off∧off≤10000000000)∧(sAsg (cImm (cIdx (cLst (Jb (cK (.int 0)) (Jb (cK (.int 5)) (Jb (c1 pNeg (c2 pPow (cK (.int 10)) (cK (.int 9)))) cNil)))) (Jo Je (aOw (cMv 0) (some 0) (aRo (cK (.int 3)) aNil))))) (gSet 7)) (RW7 (tp T) ns js t (dN .m q.1 q.2) rs (some (fR g)) o7 o8 o9)=.nx (RW7 (tp T1) ns js t (dN .m q.1 q.2) rs (some (fR g)) (some (.int off)) o8 o9):=by
  have e9:c2 pPow (cK (.int 10)) (cK (.int 9))=fun env=>.ok (.int 1000000000) env:=by
   funext env;rfl
  have a0:atI [D.int 0,.int 5,.int (-1000000000)] v=some (if v=0 then .int 0 else if v=1 then .int 5 else .int (-1000000000)):=by
   have:v=0∨v=1∨v=2:=by omega
   rcases this with e | e | e<;>subst e<;>rfl
  refine⟨if v=0 then 0 else if v=1 then 5 else -1000000000,by split;decide;split<;>decide,?_⟩
  have i0:=Ur T
  have n1:=Ug T1
  have en:(if v=0 then D.int 0 else if v=1 then .int 5 else .int (-1000000000))=.int (if v=0 then 0 else if v=1 then 5 else -1000000000):=by split;rfl;split<;>rfl
  rw[en]at a0
  generalize (if v=0 then (0:Int) else if v=1 then 5 else -1000000000)=off at *
  generalize dN .m q.1 q.2=DD at *
  generalize tp T=A0 at *
  generalize tp T1=A1 at *
  rw[e9]
  unfold RW7;simp[d1,i0,n1,s3,a0]
 obtain⟨env',f1,done,rs',T',p8,p9,rfl,h2,h3,h4⟩:=Qo (f:=D.str) (g:=gSet 8) (body:=UL)
  (fun rest env=>∃(done:List Str) (rs':List (Str × Int)) (T':Tp) (o8 o9:Option D),env=RW7 (tp T') ns js t (dN .m q.1 q.2) rs' (some (fR g)) (some (.int off)) o8 o9∧QI ns rs'∧done++rest=g∧rs'.length=rs.length+done.length)
  (fun x rest env ⟨done,rs',T',o8,o9,e,h2,h3,h4⟩=>by
   have hl:done.length < g.length:=by rw[←h3];simp
   obtain⟨rs2,T2,p9,k1,k2,k3⟩:=row7_step (js:=js) T' hq ht0 ht1 (hg x (by rw[←h3];simp)) ho h2 (by omega) (some (fR g)) o9
   exact⟨_,_,by rw[e];rfl,k1,done++[x],rs2,T2,some (.str x),p9,rfl,k2,by rw[←h3];simp,by rw[k3,h4];simp;omega⟩)
  g (RW7 (tp T1) ns js t (dN .m q.1 q.2) rs (some (fR g)) (some (.int off)) o8 o9) ⟨[],rs,T1,o8,o9,rfl,hr,by simp,by simp⟩
 rw[List.append_nil]at h3
 subst h3
 refine⟨rs',T',some (.int off),p8,p9,?_,h2,h4⟩
 unfold UJ
 refine Jy s1 ?_
 have iS:=Ut (f:=D.str) (fun _=>rfl) done
 have src:JI (cVar 6) (RW7 (tp T1) ns js t (dN .m q.1 q.2) rs (some (fR done)) (some (.int off)) o8 o9)=.ok (done.map D.str) (RW7 (tp T1) ns js t (dN .m q.1 q.2) rs (some (fR done)) (some (.int off)) o8 o9):=by
  unfold RW7 fR;simp[iS]
 rw[QD,src];exact f1
theorem v_lrows7 (T:Tp) (hk:NOk ns) (hj:JOk ns js) (hjs:js.length≤1000) (ht0:0≤t) (ht1:t≤1000) :
  ∃rs T',UC [tp T,.lst .l (ns.map D.str),.lst .l (js.map jt),.int t]=.ok (.lst .m (rs.map nr)) [tp T']∧QI ns rs∧rs.length≤ns.length:=by
 have hnl:=hk.len
 obtain⟨q,e1,qn,qm,qb⟩:=v_lnum7 (js:=js) hk.nd (by omega) hjs (fun j h=>hj.one j h) (fun j h=>hj.other j h) fun j h=>⟨hj.lo j h,hj.hi j h⟩
 obtain⟨gs,ec,w⟩:=Jes (js:=js) hk.nd (by omega) hjs (fun j h=>hj.one j h) (fun j h=>hj.other j h)
 obtain⟨gw,gin⟩:=w.grp
 have ql:q.1.length≤ns.length:=YD qn fun x h=>(qm x).mp h
 have hq:∀m∈ns,m∈q.1∧-10000000000000000≤q.2 m∧q.2 m≤10000000000000000:=fun m hm=>by
  have h1:=(qm m).mpr hm
  obtain⟨b1,b2⟩:=qb m h1
  exact⟨h1,by omega,by omega⟩
 have flat:(cl gs).flatten.length≤ns.length:=by
  refine YD ?_ fun x h=>?_
  ·refine List.pairwise_flatten.mpr ⟨fun g hg=>gw.gnd g hg,gw.nd.imp_of_mem fun {g g'} hg hg' hne x hx y hy e=>?_⟩
   subst e
   exact hne (gw.same g hg g' hg' x hx hy)
  ·obtain⟨g,hg,hx⟩:=List.mem_flatten.mp h
   exact(gin x).mpr ⟨g,hg,hx⟩
 obtain⟨env',f1,done,rs,T',p6,p7,p8,p9,rfl,h2,h3,h4⟩:=Qo (f:=fR) (g:=gSet 6) (body:=UJ)
  (fun rest env=>∃(done:List (List Str)) (rs:List (Str × Int)) (T':Tp) (o6 o7 o8 o9:Option D),env=RW7 (tp T') ns js t (dN .m q.1 q.2) rs o6 o7 o8 o9∧QI ns rs∧done++rest=cl gs∧rs.length=done.flatten.length)
  (fun g rest env ⟨done,rs,T',o6,o7,o8,o9,e,h2,h3,h4⟩=>by
   have hl:done.flatten.length+g.length≤(cl gs).flatten.length:=by rw[←h3];simp
   obtain⟨rs2,T2,p7,p8,p9,k1,k2,k3⟩:=row7_group (js:=js) T' hq ht0 ht1 (g:=g) (fun x hx=>(gin x).mpr ⟨g,by rw[←h3];simp,hx⟩) h2 (by omega) o7 o8 o9
   exact⟨_,_,by rw[e];rfl,k1,done++[g],rs2,T2,_,_,_,_,rfl,k2,by rw[←h3];simp,by rw[k3,h4];simp⟩)
  (cl gs) (RW7 (tp T) ns js t (dN .m q.1 q.2) [] none none none none) ⟨[],[],T,none,none,none,none,rfl,(fun p hp=>nomatch hp),by simp,by simp⟩
 rw[List.append_nil]at h3
 subst h3
 refine⟨rs,T',?_,h2,by omega⟩
 have hcl:(cl gs).length≤sizeLine:=by rw[Jen];have:=Qs w;exact Yr (by omega)
 have fx:=Jb3 (cl gs)
 have nr':=Jb6 (cl gs)
 have im:=Jds (cl gs)
 have nq:(dN .m q.1 q.2).nol=true:=QT (fun _=>rfl) _
 have lns:=ZK ns
 have lnj:=Jar js
 have inr':(D.lst .m (rs.map nr)).imm=false:=rfl
 refine Uz (env0:=[some (tp T),some (.lst .l (ns.map D.str)),some (.lst .l (js.map jt)),some (.int t),none,none,none,none,none,none]) (env:=(RW7 (tp T') ns js t (dN .m q.1 q.2) rs p6 p7 p8 p9).set 5 none) ⟨rfl,by decide⟩ rfl ?_ (by rfl)
 have src:JI (cFix (Jo JO (aRo (cVar 1) (aRo (cVar 2) aNil)))) (RW7 (tp T) ns js t (dN .m q.1 q.2) [] none none none none)=.ok ((cl gs).map fR) (RW7 (tp T) ns js t (dN .m q.1 q.2) [] none none none none):=by
  unfold RW7;simp[lns,lnj,ec,nr',fx,im]
 unfold JaJ
 refine Jy (env1:=[some (tp T),some (.lst .l (ns.map D.str)),some (.lst .l (js.map jt)),some (.int t),some (dN .m q.1 q.2),none,none,none,none,none]) ?_ (Jy (env1:=RW7 (tp T) ns js t (dN .m q.1 q.2) [] none none none none) ?_ (Jy (env1:=RW7 (tp T') ns js t (dN .m q.1 q.2) rs p6 p7 p8 p9) (by rw[QD,src];exact f1) ?_))
 ·generalize dN .m q.1 q.2=DD at *
  simp[lns,lnj,e1,nq]
 ·generalize dN .m q.1 q.2=DD at *
  unfold RW7;simp
 ·unfold RW7
  generalize rs.map nr=RR at *
  simp[inr']
end
end VS
namespace VS
open PySem L2 SeqAt
mutual
theorem Jer:∀{d:D},d.imm=true→d.nol=true→d.fix=d
 | .non,_,_=>rfl
 | .bl _,_,_=>rfl
 | .int _,_,_=>rfl
 | .str _,_,_=>rfl
 | .ty _,_,_=>rfl
 | .exc _ _ _,_,_=>rfl
 | .tup ds,h,h2=>by show D.tup (fixs ds)=_;rw[fixs_in h h2]
 | .ftu ds,h,h2=>by show D.ftu (fixs ds)=_;rw[fixs_in h h2]
 | .lst g ds,h,h2=>by
  have a:=Bool.and_eq_true_iff.mp h
  have b:=Bool.and_eq_true_iff.mp h2
  show D.lst g.fix (fixs ds)=_
  rw[fixs_in a.2 b.2]
  cases g<;>first | rfl | (exact absurd a.1 (by decide))
 | .dct g ks ds,h,h2=>by
  have a:=Bool.and_eq_true_iff.mp h
  have b:=Bool.and_eq_true_iff.mp h2
  show D.dct g.fix ks (fixs ds)=_
  rw[fixs_in a.2 b.2]
  cases g<;>first | rfl | (exact absurd a.1 (by decide))
 | .obj g c ns ds,h,h2=>by
  have a:=Bool.and_eq_true_iff.mp h
  have b:=Bool.and_eq_true_iff.mp h2
  show D.obj g.fix c ns (fixs ds)=_
  rw[fixs_in a.2 b.2]
  cases g<;>first | rfl | (exact absurd a.1 (by decide))
theorem fixs_in:∀{ds:List D},imms ds=true→nols ds=true→fixs ds=ds
 | [],_,_=>rfl
 | d::ds,h,h2=>by
  have a:=Bool.and_eq_true_iff.mp h
  have b:=Bool.and_eq_true_iff.mp h2
  show d.fix::fixs ds=_
  rw[Jer a.1 b.1,fixs_in a.2 b.2]
end
mutual
theorem JdQ:∀d:D,d.lend.lend=d.lend
 | .non=>rfl
 | .bl _=>rfl
 | .int _=>rfl
 | .str _=>rfl
 | .ty _=>rfl
 | .exc _ _ _=>rfl
 | .tup ds=>by show D.tup (lends (lends ds))=.tup (lends ds);rw[lends2 ds]
 | .ftu ds=>by show D.ftu (lends (lends ds))=.ftu (lends ds);rw[lends2 ds]
 | .lst g ds=>by show D.lst .l (lends (lends ds))=.lst .l (lends ds);rw[lends2 ds]
 | .dct g ks ds=>by show D.dct .l ks (lends (lends ds))=.dct .l ks (lends ds);rw[lends2 ds]
 | .obj g c ns ds=>by show D.obj .l c ns (lends (lends ds))=.obj .l c ns (lends ds);rw[lends2 ds]
theorem lends2:∀ds:List D,lends (lends ds)=lends ds
 | []=>rfl
 | d::ds=>by show d.lend.lend::lends (lends ds)=d.lend::lends ds;rw[JdQ d,lends2 ds]
end
inductive Fx {α:Type} (f:α→D) (l:List α):D→Prop
 | f:Fx f l (.lst .f (l.map f))
 | t:Fx f l (.tup (l.map f))
theorem Fx.hold {α:Type} {f:α→D} {l:List α} {d:D} (h:Fx f l d) (hl:lends (l.map f)=l.map f):Hold f l d.lend:=by
 cases h
 ·show Hold f l (D.lst .l (lends (l.map f)));rw[hl];exact .l
 ·show Hold f l (D.tup (lends (l.map f)));rw[hl];exact .t
theorem Hold.hst {ns:List Str} {dn:D} (h:Hold D.str ns dn):HSt ns dn:=by cases h;exact .l;exact .t
theorem Jbc (rs:List (Str × Int)):lends (rs.map nr)=rs.map nr:=Jau (fun _=>rfl) rs
theorem JcQ:∀rs:List (Str × Int),thaws (rs.map nr)=rs.map nr
 | []=>rfl
 | p::rs=>by show (nr p).thaw::thaws (rs.map nr)=_;rw[JcQ rs];rfl
structure It (y:D):Prop where
 sm:Sm y.thaw
 im:y.imm=true
 no:y.nol=true
 th:∀p,y.lend.thaw=nr p→y.lend=nr p
theorem Od.it {d:D} (h:Od d):It d:=⟨h.sm,h.im,h.no,h.th⟩
structure PapO (P:D):Prop where
 im:P.imm=true
 pp:Pp P.thaw
 dc:∀rs:List (Str × Int),isL P.lend.thaw=true→UV P.lend.thaw=some (rs.map nr)→Jaq [P.lend]=ZS [.lst .l (rs.map nr)]
theorem PapO.lst {ys:List D} (h:∀y∈ys,It y) (hl:ys.length≤140):PapO (.lst .f ys):=by
 have iy:imms ys=true:=Uj fun y hy=>(h y hy).im
 have tm:∀{zs:List D},(∀y∈zs,It y)→∀x∈thaws zs,Sm x:=fun {zs}=>by
  induction zs with
  | nil=>exact fun _ x hx=>nomatch hx
  | cons z zs ih =>
   intro hz x hx
   rcases List.mem_cons.mp (show x∈z.thaw::thaws zs from hx) with w | w
   ·rw[w];exact(hz z (by simp)).sm
   ·exact ih (fun y hy=>hz y (by simp[hy])) x w
 have tl:∀zs:List D,(thaws zs).length=zs.length:=fun zs=>by
  induction zs with
  | nil=>rfl
  | cons z zs ih=>show (thaws zs).length+1=_;rw[ih];rfl
 refine⟨by show ((Fl.f == .l || Fl.f == .f) && imms ys)=true;rw[iy];rfl,(Sm.seq (tm h) (by rw[tl];exact hl)).1,fun rs _ sq=>?_⟩
 have e1:thaws (lends ys)=rs.map nr:=by
  have:UV (D.lst .l (thaws (lends ys)))=some (rs.map nr):=sq
  injection this
 have key:∀{zs:List D} {rs:List (Str × Int)},(∀y∈zs,It y)→thaws (lends zs)=rs.map nr→lends zs=rs.map nr:=fun {zs}=>by
  induction zs with
  | nil=>intro rs _ e;exact e
  | cons z zs ih =>
   intro rs hz e
   cases rs with
   | nil=>cases e
   | cons p rs =>
    have e':z.lend.thaw::thaws (lends zs)=nr p::rs.map nr:=e
    injection e' with q1 q2
    show z.lend::lends zs=nr p::rs.map nr
    rw[(hz z (by simp)).th p q1,ih (fun y hy=>hz y (by simp[hy])) q2]
 have e2:=key h e1
 show Jaq [.lst .l (lends ys)]=_
 rw[e2];rfl
theorem PapO.ftu {rs:List (Str × Int)} (h:∀p∈rs,Sm (nr p)) (hl:rs.length≤140):PapO (.ftu (rs.map nr)):=by
 have hs:∀x∈rs.map nr,Sm x:=fun x hx=>by obtain⟨p,hp,rfl⟩:=List.mem_map.mp hx;exact h p hp
 have et:(D.ftu (rs.map nr)).thaw=.tup (rs.map nr):=by show D.tup (thaws (rs.map nr))=_;rw[JcQ]
 have el:(D.ftu (rs.map nr)).lend=.ftu (rs.map nr):=by show D.ftu (lends (rs.map nr))=_;rw[Jbc]
 refine⟨Ja0 rs,by rw[et];exact(Sm.seq hs (by rw[List.length_map];exact hl)).2,fun rs' _ sq=>?_⟩
 rw[el,et]at sq
 rw[el]
 have e1:rs.map nr=rs'.map nr:=by injection sq
 rw[←e1,Jbs]
 rfl
theorem PapO.odd {d:D} (h:Od d):PapO d:=by
 refine⟨h.im,h.sm.pp,fun rs hL sq=>?_⟩
 have hp:pln 7 d.lend.thaw=true:=by rw[Jao];exact h.sm.pp.pl
 obtain⟨ds,sq',hd,_,_,_⟩:=Jac hp hL
 rw[sq]at sq'
 injection sq' with e
 subst e
 rcases hd with hd | hd
 ·rw[h.ls rs hd];rfl
 ·rw[h.tu rs hd,Jbs];rfl
section
variable {ns:List Str} {js:List Jn} {t:Int} {dn dj:D}
theorem v_says7 (hn:HSt ns dn) (hnd:ns.Nodup) (hnl':dn.lend=dn) (hdj:Hold jt js dj) (hdl:dj.lend=dj) (hnl:ns.length≤900) (hjl:js.length≤1000) (h0:0≤t) (h1:t≤1000) (hone:∀j∈js,j.1∈ns) (hoth:∀j∈js,j.2.1∈ns) {P:D} (hP:PapO P) :
  YO [dn,dj,.int t,P.lend]=.ok (.bl true) []:=by
 have el:=Jao P
 have hp:pln 7 P.lend.thaw=true:=by rw[el];exact hP.pp.pl
 have hsz:∀ds,UV P.lend.thaw=some ds→ds.length≤900:=fun ds h=>hP.pp.sz ds (by rw[←el];exact h)
 obtain⟨s,hs⟩:=hP.pp.str
 rw[←el]at hs
 have v1:=v_shows_any hn hnl' hdj (by omega) hjl h0 h1 hone hoth hp hsz hP.dc
 have v2:=v_due_any hn hnd hdj hnl hjl h0 h1 hone hoth hp hsz
 have l2:=JdQ P
 have lR:=(YI hp).2
 generalize hb:RBs ns js t P.lend.thaw=b at *
 have e1:pEq (.bl b) (.bl b)=some (.bl true):=by cases b<;>rfl
 have e2:pEq (.str s) (.str s)=some (.bl true):=by
  unfold pEq
  have:eqOk 40 (.str s)=true:=rfl
  rw[this];simp[pyEq]
 have ib:pIsi [.bl b,.ty "bool"]=some (.bl true):=rfl
 refine Uz (env0:=[some dn,some dj,some (.int t),some P.lend,none,none]) (env:=[some dn,some dj,some (.int t),some P.lend,some (.str s),some (.bl b)]) ⟨rfl,by decide⟩ rfl ?_ rfl
 unfold JaF
 generalize hL:P.lend=L at *
 generalize hR:L.thaw=R at *
 refine Jy (env1:=[some dn,some dj,some (.int t),some L,some (.str s),none]) (by simp[hR,hs]) ?_
 refine Jy (env1:=[some dn,some dj,some (.int t),some L,some (.str s),some (.bl b)]) (by simp[hnl',hdl,l2,v1]) ?_
 simp[hnl',hdl,hR,lR,v2,hs,e1,e2,ib]
end
end VS
namespace VS
open PySem L2 SeqAt
theorem JdC {xs:List D} {ys:List PyData} (him:imms xs=true) (hno:nols xs=true) (hpl:xs.all (pln 5)=true) (hle:lends xs=xs) (hpy:pys xs=some ys) (hs:∀y∈ys,Sh 64 0 y) (hl:xs.length≤3) (hly:ys.length≤3):Sm (.tup xs)∧Sm (.lst .f xs):=by
 obtain⟨s1,s2⟩:=Jed hs hly
 have p1:pln 6 (.tup xs)=true:=by
  show (decide (xs.length≤1000000) && xs.all (pln 5))=true
  rw[hpl,decide_eq_true (by omega)];rfl
 have p2:pln 6 (.lst .l xs)=true:=by
  show (decide (xs.length≤1000000) && xs.all (pln 5))=true
  rw[hpl,decide_eq_true (by omega)];rfl
 have up:∀{y:PyData},Sh ((64+1) * 3) (0+1) y→Sh 2000 6 y:=fun h=>⟨h.l,h.s,Nat.le_trans h.w (by decide),Nat.le_trans h.d (by decide)⟩
 have lt:(D.tup xs).lend=.tup xs:=by show D.tup (lends xs)=_;rw[hle]
 have ll:(D.lst .f xs).lend=.lst .l xs:=by show D.lst .l (lends xs)=_;rw[hle]
 refine⟨⟨him,hno,by rw[lt];exact p1,⟨.tuple ys,?_,up s2⟩,fun ds h=>?_⟩,⟨?_,?_,by rw[ll];exact p2,⟨.list ys,?_,up s1⟩,fun ds h=>?_⟩⟩
 ·rw[lt];show (pys xs).map PyData.tuple=_;rw[hpy];rfl
 ·rw[lt]at h;cases h;omega
 ·show ((Fl.f == .l || Fl.f == .f) && imms xs)=true;rw[him];rfl
 ·show ((Fl.f == .m || Fl.f == .f) && nols xs)=true;rw[hno];rfl
 ·rw[ll];show (pys xs).map PyData.list=_;rw[hpy];rfl
 ·rw[ll]at h;cases h;omega
theorem if_t7 {ct:CT} {s1 s2:CS} {env env1:Env} {o:O} (h:ct env=.ok true env1) (h2:s1 env1=o):sIf ct s1 s2 env=o:=by
 rw[Jdv,h];exact h2
theorem Jeg {ct:CT} {s1 s2:CS} {env env1:Env} {o:O} (h:ct env=.ok false env1) (h2:s2 env1=o):sIf ct s1 s2 env=o:=by
 rw[Jdv,h];exact h2
def BdI (v:Int):Prop:=-200000000000000000≤v∧v≤200000000000000000
theorem JeH {n:Str} {v:Int} (hn:Zs n=true) (hv:BdI v):Sm (.tup [.str n,.int v])∧Sm (.lst .f [.str n,.int v])∧Sm (.tup [.str n,.int v,.int 0]):=by
 obtain⟨b1,b2⟩:=hv
 have s0:=sh_name hn
 have s1:Sh 64 0 (.str n):=⟨s0.l,s0.s,Nat.le_trans s0.w (by decide),s0.d⟩
 have s2:=Jew (i:=v) (by omega) (by omega)
 have s3:=Jew (i:=0) (by decide) (by decide)
 obtain⟨q1,q2⟩:=JdC (xs:=[.str n,.int v]) (ys:=[.str n,.int v]) rfl rfl rfl rfl rfl (fun y hy=>by
  simp only[List.mem_cons,List.mem_nil_iff,or_false]at hy
  rcases hy with rfl | rfl
  ·exact s1
  ·exact s2) (by simp) (by simp)
 obtain⟨q3,_⟩:=JdC (xs:=[.str n,.int v,.int 0]) (ys:=[.str n,.int v,.int 0]) rfl rfl rfl rfl rfl (fun y hy=>by
  simp only[List.mem_cons,List.mem_nil_iff,or_false]at hy
  rcases hy with rfl | rfl | rfl
  ·exact s1
  ·exact s2
  ·exact s3) (by simp) (by simp)
 exact⟨q1,q2,q3⟩
theorem Jdm {p:Str × Int} (hn:Zs p.1=true) (hv:BdI p.2):It (nr p):=⟨(JeH hn hv).1,rfl,rfl,fun q h=>h⟩
theorem ne_nrs (g:Fl) (rs:List (Str × Int)):pNe (.lst g (rs.map nr)) (.lst .m [])=some (.bl (!rs.isEmpty)):=by
 have key:∀rs:List (Str × Int),eqOks 39 (rs.map nr)=true:=fun rs=>by
  induction rs with
  | nil=>rfl
  | cons p rs ih=>rw[List.map_cons,eqOks,ih];rfl
 have e:eqOk 40 (.lst g (rs.map nr))=true:=by unfold eqOk;exact key rs
 have e':eqOk 40 (.lst .m [])=true:=rfl
 unfold pNe;rw[e,e']
 cases rs<;>rfl
def L7 (sc:D) (k:Option D) (T:Tp) (dn:D) (t:Int) (dj:D) (rs:List (Str × Int)) (S:List D) (o8 o9 o10 o11:Option D):Env:=[some sc,k,some (tp T),some dn,some (.int t),some dj,some (.lst .f (rs.map nr)),some (.lst .m S),o8,o9,o10,o11,none]
section
variable {ns:List Str} {js:List Jn} {t:Int} {dn dj:D} {rs:List (Str × Int)} {S:List D}
theorem thing7 (sc:D) (k:Option D) (T:Tp) (hok:∀p∈rs,Zs p.1=true∧-100000000000000000≤p.2∧p.2≤100000000000000000) (hrl:rs.length≤40) {d:D} (hd:It d) (o8 o10 o11:Option D) :
  ∃th T' p10 p11,(sIf (ZY (cTt (c2 pNe (cVar 6) (cLst cNil))) (cTt (c2 pEq (Jo Je (aOw (cMv 2) (some 2) (aRo (cK (.int 2)) aNil))) (cK (.int 0))))) (sSeq (sAsg (cImm (cIdx (cVar 6) (Jo Je (aOw (cMv 2) (some 2) (aRo (cL pLen (Jb (cVar 6) cNil)) aNil))))) (UF 2 (JA (gSet 10) (JA (gSet 11) UO)))) (sAsg (cImm (cIdx (cLst (Jb (cTup (Jb (cGet 10) (Jb (c2 pAdd (cVar 11) (cK (.int 1))) cNil))) (Jb (cTup (Jb (cGet 10) (Jb (c1 pNeg (cVar 11)) cNil))) (Jb (cFix (cLst (Jb (cGet 10) (Jb (cGet 11) cNil)))) (Jb (cTup (Jb (cGet 10) (Jb (cGet 11) (Jb (cK (.int 0)) cNil)))) cNil))))) (Jo Je (aOw (cMv 2) (some 2) (aRo (cK (.int 4)) aNil))))) (gSet 9))) sNil) (L7 sc k T dn t dj rs S o8 (some d) o10 o11)=.nx (L7 sc k T' dn t dj rs S o8 (some th) p10 p11)∧It th:=by
 have hne:=ne_nrs .f rs
 have d1:=Ya T (m:=2) (by decide) (by decide)
 generalize drV T 2=r1 at *
 generalize drT T 2=T1 at *
 cases hrs:rs with
 | nil =>
  subst hrs
  refine⟨d,T,o10,o11,Jeg ?_ rfl,hd⟩
  simp only[List.isEmpty_nil,Bool.not_true]at hne
  unfold L7
  generalize ([]:List (Str × Int)).map nr=RR at *
  simp[hne]
 | cons p0 rs0 =>
 rw[←hrs]
 have hem:(!rs.isEmpty)=true:=by rw[hrs];rfl
 rw[hem]at hne
 have hpos:(0:Int) < (rs.length:Nat):=by rw[hrs,List.length_cons];omega
 have hlr:(rs.map nr).length=rs.length:=List.length_map _
 have hz:rs.length≤sizeLine:=UG (by omega)
 have iR:=Ja0 rs
 by_cases h1:r1=0
 ·subst h1
  have d2:=Ya T1 hpos (by omega)
  obtain⟨p,hp,_,ep⟩:=JaY (f:=nr) (xs:=rs) (Uf (t:=T1) hpos) (YE (t:=T1) hpos)
  generalize drV T1 ((rs.length:Nat):Int)=r2 at *
  generalize drT T1 ((rs.length:Nat):Int)=T2 at *
  have d3:=Ya T2 (m:=4) (by decide) (by decide)
  have q0:=Uf (t:=T2) (m:=4) (by decide)
  have q1:=YE (t:=T2) (m:=4) (by decide)
  generalize drV T2 4=r3 at *
  generalize drT T2 4=T3 at *
  obtain⟨hn,b1,b2⟩:=hok p hp
  obtain⟨x,v⟩:=p
  simp only at hn b1 b2
  obtain⟨th,ith,eth⟩:∃th,It th∧atI [D.tup [.str x,.int (v+1)],.tup [.str x,.int (-v)],.lst .f [.str x,.int v],.tup [.str x,.int v,.int 0]] r3=some th:=by
   have:r3=0∨r3=1∨r3=2∨r3=3:=by omega
   rcases this with h | h | h | h<;>rw[h]
   ·exact⟨nr (x,v+1),Jdm hn ⟨by simp only;omega,by simp only;omega⟩,rfl⟩
   ·exact⟨nr (x,-v),Jdm hn ⟨by simp only;omega,by simp only;omega⟩,rfl⟩
   ·exact⟨.lst .f [.str x,.int v],⟨(JeH (v:=v) hn ⟨by omega,by omega⟩).2.1,rfl,rfl,fun q h=>(by cases h)⟩,rfl⟩
   ·exact⟨.tup [.str x,.int v,.int 0],⟨(JeH (v:=v) hn ⟨by omega,by omega⟩).2.2,rfl,rfl,fun q h=>(by unfold nr at h;injection h with h;cases h)⟩,rfl⟩
  have tim:=ith.im
  have i0:=Ur T
  have i1:=Ur T1
  have i2:=Ur T2
  have n1:=Ug T1
  have n2:=Ug T2
  have n3:=Ug T3
  have g1:-18446744073709551616 < v:=by omega
  have g2:v < 18446744073709551616:=by omega
  have en:nr (x,v)=.tup [.str x,.int v]:=rfl
  rw[en]at ep
  refine⟨th,T3,some (.str x),some (.int v),?_,ith⟩
  refine if_t7 (env1:=L7 sc k T1 dn t dj rs S o8 (some d) o10 o11) ?_ (Jy (env1:=L7 sc k T2 dn t dj rs S o8 (some d) (some (.str x)) (some (.int v))) ?_ ?_)
  ·unfold L7
   generalize rs.map nr=RR at *
   simp[hne,d1,i0,n1]
  ·unfold L7
   generalize rs.map nr=RR at *
   simp[iR,hlr,hz,d2,i1,n2,ep]
  ·unfold L7
   generalize rs.map nr=RR at *
   have s4:4≤sizeLine:=Yr (by decide)
   have s3:3≤sizeLine:=Yr (by decide)
   have s2:2≤sizeLine:=Yr (by decide)
   have fx:(D.lst .m [.str x,.int v]).fix=.lst .f [.str x,.int v]:=rfl
   simp[d3,i2,n3,g1,g2,s4,s3,s2,fx,eth,tim]
 ·refine⟨d,T1,o10,o11,Jeg (env1:=L7 sc k T1 dn t dj rs S o8 (some d) o10 o11) ?_ rfl,hd⟩
  have i0:=Ur T
  have n1:=Ug T1
  unfold L7
  generalize rs.map nr=RR at *
  simp[hne,d1,i0,n1,h1]
theorem again7 (sc:D) (k:Option D) (T:Tp) (hok:∀p∈rs,Zs p.1=true∧-100000000000000000≤p.2∧p.2≤100000000000000000) (hrl:rs.length≤40) (hS:S.length≤1000) (o8 o9 o10 o11:Option D) :
  ∃T' P p9 p10 p11,Ja3 (L7 sc k T dn t dj rs S o8 o9 o10 o11)=.nx (L7 sc k T' dn t dj rs (S++[P]) o8 p9 p10 p11)∧PapO P:=by
 obtain⟨d,T1,e1,od⟩:=JdZ T
 obtain⟨th,T2,p10,p11,e2,ith⟩:=thing7 (dn:=dn) (dj:=dj) (t:=t) (S:=S) sc k T1 hok hrl od.it o8 o10 o11
 have irs:∀p∈rs,It (nr p):=fun p hp=>Jdm (hok p hp).1 ⟨by have:=(hok p hp).2.1;omega,by have:=(hok p hp).2.2;omega⟩
 obtain⟨ys,T3,e3,hy,hyl⟩:=v_bent T2 (xs:=rs.map nr) (d:=th) (by simp;omega) (fun x hx=>by obtain⟨p,_,rfl⟩:=List.mem_map.mp hx;exact⟨rfl,rfl⟩) ith.im ith.no
 have iy:∀y∈ys,It y:=fun y h=>(hy y h).elim (fun z=>by obtain⟨p,hp,rfl⟩:=List.mem_map.mp z;exact irs p hp) fun z=>by rw[z];exact ith
 have hP:=PapO.lst iy (by simp at hyl;omega)
 have imy:imms ys=true:=Uj fun y h=>(iy y h).im
 have noy:nols ys=true:=JaB fun y h=>(iy y h).no
 have fy:=fixs_in imy noy
 have lnr:=Jbc rs
 have hSz:S.length < sizeLine:=JaN (by omega)
 have im:=od.im
 have no:=od.no
 have tim:=ith.im
 have tno:=ith.no
 have lf:(D.lst .f (rs.map nr)).lend=.lst .l (rs.map nr):=by show D.lst .l (lends (rs.map nr))=_;rw[lnr]
 refine⟨T3,.lst .f ys,some th,p10,p11,?_,hP⟩
 have i0:=Ur T
 have n1:=Ug T1
 have i2:=Ur T2
 have n3:=Ug T3
 unfold Ja3
 refine Jy (env1:=L7 sc k T1 dn t dj rs S o8 (some d) o10 o11) ?_ (Jy e2 ?_)
 ·unfold L7;simp[e1,i0,n1,im,no]
 ·unfold L7
  generalize rs.map nr=RR at *
  simp[lf,e3,i2,n3,tim,tno,fy,imy,noy,hSz,lVar]
theorem says_all (hn:HSt ns dn.lend) (hnd:ns.Nodup) (hnl':dn.lend.lend=dn.lend) (hdj:Hold jt js dj.lend) (hdl:dj.lend.lend=dj.lend) (hnl:ns.length≤900) (hjl:js.length≤1000) (h0:0≤t) (h1:t≤1000) (hone:∀j∈js,j.1∈ns) (hoth:∀j∈js,j.2.1∈ns) (sc:D) (k:Option D) (T:Tp) (hS:∀P∈S,PapO P) (o8 o9 o10 o11:Option D) :
  UA [12] (gSet 12) cYes (Jo YO (aRo (cVar 3) (aRo (cVar 5) (aRo (cVar 4) (aRo (cVar 12) aNil))))) S (L7 sc k T dn t dj rs S o8 o9 o10 o11)=some (S.map fun _=>.bl true,L7 sc k T dn t dj rs S o8 o9 o10 o11) :=
 JaA (y:=fun _=>.bl true) fun P hP=>by
  have e:=v_says7 hn hnd hnl' hdj hdl hnl hjl h0 h1 hone hoth (hS P hP)
  refine⟨(L7 sc k T dn t dj rs S o8 o9 o10 o11).set 12 (some P),rfl,rfl,?_,rfl⟩
  unfold L7
  simp[e]
theorem all_true7 (S:List D):pAll [.lst .m (S.map fun _=>D.bl true)]=some (.bl true):=by
 have e:(S.map fun _=>D.bl true)=(S.map fun _=>true).map D.bl:=by rw[List.map_map];rfl
 rw[e,Jbp]
 simp
end
theorem v_round7 (xs:List Int) (k:Nat) (o2 o3 o4 o5 o6 o7 o8 o9 o10 o11:Option D):∃p2 p3 p4 p5 p6 p7 p8 p9 p10 p11,Ja5 [some (.lst .l (xs.map D.int)),some (.int (k:Nat)),o2,o3,o4,o5,o6,o7,o8,o9,o10,o11,none]=.nx [some (.lst .l (xs.map D.int)),some (.int (k:Nat)),p2,p3,p4,p5,p6,p7,p8,p9,p10,p11,none]:=by
 obtain⟨T0,t1⟩:=v_tape xs k
 obtain⟨ns,T1,t2,w⟩:=v_names T0
 obtain⟨z,T2,t3,hz0,hz1⟩:=v_turn T1
 have hnl:=w.len
 obtain⟨js,T3,t4,jo,hjl⟩:=v_joinings T2 (ns:=ns) (t:=z) (by omega) ⟨hz0,hz1⟩
 obtain⟨rs,T4,t5,hro,hrl⟩:=v_lrows7 T3 w jo (by omega) hz0 hz1
 have d6:=Ya T4 (m:=2) (by decide) (by decide)
 have p6:=Uf (t:=T4) (m:=2) (by decide)
 have q6:=YE (t:=T4) (m:=2) (by decide)
 obtain⟨a1,T6,t7,od1⟩:=JdZ (drT T4 2)
 obtain⟨a2,T7,t8,od2⟩:=JdZ T6
 have fn:fixs (ns.map D.str)=ns.map D.str:=UP (fun _=>rfl) _
 have fj:fixs (js.map jt)=js.map jt:=UP (fun _=>rfl) _
 have fr:fixs (rs.map nr)=rs.map nr:=UP (fun _=>rfl) _
 have imn:=JaC ns
 have imj:=JbG js
 have imr:=Ja0 rs
 have lsn:=ZK ns
 have lsj:=Jar js
 have lsr:=Jbc rs
 have nn:=JbX ns
 have nj:=JcR js
 have nrr:nols (rs.map nr)=true:=QT (fun _=>rfl) rs
 have hnz:(ns.map D.str).length≤sizeLine:=by rw[List.length_map];exact UG (by omega)
 have hjz:(js.map jt).length≤sizeLine:=by rw[List.length_map];exact UG (by omega)
 have hrz:(rs.map nr).length≤sizeLine:=by rw[List.length_map];exact UG (by omega)
 obtain⟨dn,dj,hn,hj,edn⟩:∃dn dj,Fx D.str ns dn∧Fx jt js dj∧atI [D.tup [.lst .f (ns.map D.str),.lst .f (js.map jt)],.tup [.tup (ns.map D.str),.tup (js.map jt)]] (drV T4 2)=some (.tup [dn,dj]):=by
  have:drV T4 2=0∨drV T4 2=1:=by omega
  rcases this with h | h<;>rw[h]
  ·exact⟨_,_,.f,.f,rfl⟩
  ·exact⟨_,_,.t,.t,rfl⟩
 have idn:dn.imm=true:=by
  cases hn
  ·show ((Fl.f == .l || Fl.f == .f) && imms (ns.map D.str))=true;rw[imn];rfl
  ·exact imn
 have idj:dj.imm=true:=by
  cases hj
  ·show ((Fl.f == .l || Fl.f == .f) && imms (js.map jt))=true;rw[imj];rfl
  ·exact imj
 have Hn:=hn.hold lsn
 have Hj:=hj.hold lsj
 have hok:∀p∈rs,Zs p.1=true∧-100000000000000000≤p.2∧p.2≤100000000000000000:=fun p hp=>⟨w.ok _ (hro p hp).1,(hro p hp).2⟩
 have irs:∀p∈rs,It (nr p):=fun p hp=>Jdm (hok p hp).1 ⟨by have:=(hok p hp).2.1;omega,by have:=(hok p hp).2.2;omega⟩
 have P1:PapO (.lst .f (rs.map nr)):=PapO.lst (fun y hy=>by obtain⟨p,hp,rfl⟩:=List.mem_map.mp hy;exact irs p hp) (by rw[List.length_map];omega)
 have P2:PapO (.ftu (rs.map nr)):=PapO.ftu (fun p hp=>(irs p hp).sm) (by omega)
 have P3:=PapO.odd od1
 have P4:PapO (.lst .f [a2]):=PapO.lst (fun y hy=>by rw[List.mem_singleton.mp hy];exact od2.it) (by simp)
 have hr6:Za [.int 6]=some ((List.range 6).map fun i:Nat=>D.int (i:Nat)):=JdH 6 (by decide) (by decide)
 obtain⟨env',k1,T8,S,p8,p9,p10,p11,m,rfl,hS,hSl⟩:=Qo (f:=fun i:Nat=>D.int i) (g:=gSet 8) (body:=Ja3)
  (P:=fun rest env=>∃T S o8 o9 o10 o11 m,env=L7 (.lst .l (xs.map D.int)) (some (.int (k:Nat))) T dn z dj rs S o8 o9 o10 o11∧(∀P∈S,PapO P)∧S.length=4+m∧m+rest.length=6)
  (fun i rest env ⟨T,S,o8,o9,o10,o11,m,e,hS,hSl,hm⟩=>by
   subst e
   simp only[List.length_cons]at hm
   obtain⟨T',P,p9,p10,p11,e,hP⟩:=again7 (dn:=dn) (dj:=dj) (t:=z) (S:=S) (.lst .l (xs.map D.int)) (some (.int (k:Nat))) T hok (by omega) (by omega) (some (.int (i:Nat))) o9 o10 o11
   refine⟨_,_,rfl,e,T',_,_,_,_,_,m+1,rfl,fun Q hQ=>?_,by simp;omega,by omega⟩
   rcases List.mem_append.mp hQ with h | h
   ·exact hS Q h
   ·rw[List.mem_singleton.mp h];exact hP)
  (List.range 6) (L7 (.lst .l (xs.map D.int)) (some (.int (k:Nat))) T7 dn z dj rs [.lst .f (rs.map nr),.ftu (rs.map nr),a1,.lst .f [a2]] o8 o9 o10 o11)
  ⟨T7,_,_,_,_,_,0,rfl,fun Q hQ=>by
   simp only[List.mem_cons,List.mem_nil_iff,or_false]at hQ
   rcases hQ with rfl | rfl | rfl | rfl
   ·exact P1
   ·exact P2
   ·exact P3
   ·exact P4,rfl,by simp⟩
 have hS4:imms S=true:=Uj fun P h=>(hS P h).im
 have hm6:m=6:=by have:=hSl.2;simpa using this
 have hSz:S.length≤sizeLine:=Yr (by have:=hSl.1;omega)
 have all:=says_all (rs:=rs) (S:=S) (dn:=dn) (dj:=dj) (t:=z) Hn.hst w.nd (JdQ dn) Hj (JdQ dj) (by omega) (by omega) hz0 hz1 jo.one jo.other (.lst .l (xs.map D.int)) (some (.int (k:Nat))) T8 hS p8 p9 p10 p11
 have al:=all_true7 S
 have fx2:=Jer od2.im od2.no
 have im1:=od1.im
 have no1:=od1.no
 have im2:=od2.im
 have no2:=od2.no
 have lfn:(D.lst .f (ns.map D.str)).lend=.lst .l (ns.map D.str):=by show D.lst .l (lends _)=_;rw[lsn]
 have lfj:(D.lst .f (js.map jt)).lend=.lst .l (js.map jt):=by show D.lst .l (lends _)=_;rw[lsj]
 have ptF:Ja6 [.lst .f (rs.map nr)]=some (.ftu (rs.map nr)):=by show (if imms (rs.map nr)=true then _ else none)=_;rw[imr];rfl
 have i0:=Ur T0
 have i1:=Ur T1
 have i2:=Ur T2
 have i3:=Ur T3
 have i4:=Ur T4
 have i5:=Ur (drT T4 2)
 have i6:=Ur T6
 have n0:=Ug T0
 have n1:=Ug T1
 have n2:=Ug T2
 have n3:=Ug T3
 have n4:=Ug T4
 have n5:=Ug (drT T4 2)
 have n6:=Ug T6
 have n7:=Ug T7
 have s4:4≤sizeLine:=Yr (by decide)
 have s2:2≤sizeLine:=Yr (by decide)
 have s1:1≤sizeLine:=Yr (by decide)
 refine⟨some (tp T8),some dn,some (.int z),some dj,some (.lst .f (rs.map nr)),some (.lst .m S),p8,p9,p10,p11,?_⟩
 have lsx:(D.lst .l (xs.map D.int)).lend=.lst .l (xs.map D.int):=by show D.lst .l (lends _)=_;rw[Jau (fun _=>rfl) xs]
 unfold Ja5
 generalize D.lst .l (xs.map D.int)=XS at *
 refine Jy (env1:=[some XS,some (.int (k:Nat)),some (tp T0),o3,o4,o5,o6,o7,o8,o9,o10,o11,none]) (by simp[lsx,t1,n0]) ?_
 refine Jy (env1:=[some XS,some (.int (k:Nat)),some (tp T1),some (.lst .f (ns.map D.str)),o4,o5,o6,o7,o8,o9,o10,o11,none]) ?_ ?_
 ·generalize ns.map D.str=NN at *
  simp[t2,i0,n1,nn,fn]
 refine Jy (env1:=[some XS,some (.int (k:Nat)),some (tp T2),some (.lst .f (ns.map D.str)),some (.int z),o5,o6,o7,o8,o9,o10,o11,none]) ?_ ?_
 ·generalize ns.map D.str=NN at *
  simp[t3,i1,n2]
 refine Jy (env1:=[some XS,some (.int (k:Nat)),some (tp T3),some (.lst .f (ns.map D.str)),some (.int z),some (.lst .f (js.map jt)),o6,o7,o8,o9,o10,o11,none]) ?_ ?_
 ·generalize ns.map D.str=NN at *
  generalize js.map jt=JJ at *
  simp[lfn,t4,i2,n3,nj,fj]
 refine Jy (env1:=[some XS,some (.int (k:Nat)),some (tp T4),some (.lst .f (ns.map D.str)),some (.int z),some (.lst .f (js.map jt)),some (.lst .f (rs.map nr)),o7,o8,o9,o10,o11,none]) ?_ ?_
 ·generalize ns.map D.str=NN at *
  generalize js.map jt=JJ at *
  generalize rs.map nr=RR at *
  simp[lfn,lfj,t5,i3,n4,nrr,fr]
 refine Jy (env1:=[some XS,some (.int (k:Nat)),some (tp (drT T4 2)),some dn,some (.int z),some dj,some (.lst .f (rs.map nr)),o7,o8,o9,o10,o11,none]) ?_ ?_
 ·generalize ns.map D.str=NN at *
  generalize js.map jt=JJ at *
  generalize rs.map nr=RR at *
  simp[imn,imj,hnz,hjz,d6,i4,n5,edn,idn,idj,s2]
 refine Jy (env1:=L7 XS (some (.int (k:Nat))) T7 dn z dj rs [.lst .f (rs.map nr),.ftu (rs.map nr),a1,.lst .f [a2]] o8 o9 o10 o11) ?_ ?_
 ·unfold L7
  generalize rs.map nr=RR at *
  generalize tp (drT T4 2)=A5 at *
  simp[imr,ptF,t7,t8,i5,i6,n6,n7,no1,no2,fx2,s4,s1]
 refine Jy (env1:=L7 XS (some (.int (k:Nat))) T8 dn z dj rs S p8 p9 p10 p11) ?_ ?_
 ·have src6:Zj (Jb (cK (.int 6)) cNil) (L7 XS (some (.int (k:Nat))) T7 dn z dj rs [.lst .f (rs.map nr),.ftu (rs.map nr),a1,.lst .f [a2]] o8 o9 o10 o11)=.ok ((List.range 6).map fun i:Nat=>D.int (i:Nat)) (L7 XS (some (.int (k:Nat))) T7 dn z dj rs [.lst .f (rs.map nr),.ftu (rs.map nr),a1,.lst .f [a2]] o8 o9 o10 o11):=by simp[hr6]
  rw[QD,src6];exact k1
 ·have src7:JI (cVar 7) (L7 XS (some (.int (k:Nat))) T8 dn z dj rs S p8 p9 p10 p11)=.ok S (L7 XS (some (.int (k:Nat))) T8 dn z dj rs S p8 p9 p10 p11):=by unfold L7;simp[hS4]
  have lcc:cLc (JI (cVar 7)) [12] (gSet 12) cYes (Jo YO (aRo (cVar 3) (aRo (cVar 5) (aRo (cVar 4) (aRo (cVar 12) aNil))))) (L7 XS (some (.int (k:Nat))) T8 dn z dj rs S p8 p9 p10 p11)=.ok (.lst .m (S.map fun _=>D.bl true)) (L7 XS (some (.int (k:Nat))) T8 dn z dj rs S p8 p9 p10 p11):=by
   rw[e_lc,src7]
   have w1:Yv (L7 XS (some (.int (k:Nat))) T8 dn z dj rs S p8 p9 p10 p11) [12]=L7 XS (some (.int (k:Nat))) T8 dn z dj rs S p8 p9 p10 p11:=rfl
   have cl:UR (L7 XS (some (.int (k:Nat))) T8 dn z dj rs S p8 p9 p10 p11) [12]=true:=rfl
   have bk:Uy (L7 XS (some (.int (k:Nat))) T8 dn z dj rs S p8 p9 p10 p11) (L7 XS (some (.int (k:Nat))) T8 dn z dj rs S p8 p9 p10 p11) [12]=L7 XS (some (.int (k:Nat))) T8 dn z dj rs S p8 p9 p10 p11:=rfl
   simp only[VS.R.bind,cl,hSz,and_self,if_true,w1,all,bk]
  refine Jeg (env1:=L7 XS (some (.int (k:Nat))) T8 dn z dj rs S p8 p9 p10 p11) ?_ rfl
  simp[-e_lc,-Qf,-Ja7,lcc,al]
theorem v_law (ns:List Int) (h:ns.length≤63):Jea [.lst .l (ns.map D.int)]=.ok (.bl true) []:=by
 have hl:ns.length≤sizeLine:=Yr (by omega)
 obtain⟨env',f1,f2⟩:=Qo (f:=fun i:Nat=>D.int (i:Nat)) (g:=gSet 1) (body:=Ja5) (P:=fun _ env=>∃o1 o2 o3 o4 o5 o6 o7 o8 o9 o10 o11,env=[some (.lst .l (ns.map D.int)),o1,o2,o3,o4,o5,o6,o7,o8,o9,o10,o11,none]) (by
  rintro k rest env ⟨o1,o2,o3,o4,o5,o6,o7,o8,o9,o10,o11,rfl⟩
  obtain⟨p2,p3,p4,p5,p6,p7,p8,p9,p10,p11,e⟩:=v_round7 ns k o2 o3 o4 o5 o6 o7 o8 o9 o10 o11
  exact⟨_,_,rfl,e,_,_,_,_,_,_,_,_,_,_,_,rfl⟩) (List.range (1+(if (ns.length:Int) < 8 then (ns.length:Int) else 8)).toNat) [some (.lst .l (ns.map D.int)),none,none,none,none,none,none,none,none,none,none,none,none] ⟨_,_,_,_,_,_,_,_,_,_,_,rfl⟩
 obtain⟨o1,o2,o3,o4,o5,o6,o7,o8,o9,o10,o11,rfl⟩:=f2
 have hr:=JdH (1+(if (ns.length:Int) < 8 then (ns.length:Int) else 8)) (by split<;>omega) (by split<;>omega)
 have e:Jd8 [some (.lst .l (ns.map D.int)),none,none,none,none,none,none,none,none,none,none,none,none]=.rt (.bl true) [some (.lst .l (ns.map D.int)),o1,o2,o3,o4,o5,o6,o7,o8,o9,o10,o11,none]:=by
  unfold Jd8
  refine Jy (env1:=[some (.lst .l (ns.map D.int)),o1,o2,o3,o4,o5,o6,o7,o8,o9,o10,o11,none]) (by simp[hr,f1]) ?_
  simp
 exact Uz ⟨rfl,by decide⟩ rfl e rfl
end VS
namespace VS
open PySem L2 SeqAt PySem.Spec PyProof.Rows
theorem endZ {w:World} {mg:Str→Option Value} {fa:Addr} {h:Heap} (Y:hkZ.says w h) (G:h.Ns mainGlobals mg) (hfa:mg "law" = some (.ref fa)) :
  ∃K:PySem.W.Frag,K.In h∧∃fd:FuncData,(∀(s:Shared) (v:Value),BindsTo s fd ⟨[v],[]⟩ [("_law_script", v)])∧∀base:Heap,K.In base→base.Ns mainGlobals mg→FnG PySem.Challenge.rw_joinback_k07_numbers_shown.prog w K mg base 5 fa fd ["_law_script"] (JcV K):=by
 obtain⟨K,X,cZ⟩:=Y
 have c1:∀b∈(obZ K).1,b=true:=by rw[cZ];simp[valZ]
 have q0:(qz0 K).all id=true:=c1 _ (List.mem_of_getElem? (i:=0) rfl)
 have q1:(qz1 K).all id=true:=c1 _ (List.mem_of_getElem? (i:=1) rfl)
 have e0:(cz0 K).all id=true:=c1 _ (List.mem_of_getElem? (i:=2) rfl)
 have c2:(obZ K).2.1=(valZ w).2.1:=by rw[cZ]
 have c3:(obZ K).2.2=(valZ w).2.2:=by rw[cZ]
 obtain⟨oc1,od1,sl1,kV1,dc1,pm1,an1,cd1,ct1,l1,k1⟩:=Yp (d:=Je7) c2 0 rfl rfl (Yf e0 0 rfl)
 obtain⟨oc2,od2,sl2,kV2,dc2,pm2,an2,cd2,ct2,l2,k2⟩:=Yp (d:=JeU) c2 1 rfl rfl (Yf e0 1 rfl)
 obtain⟨oc3,od3,sl3,kV3,dc3,pm3,an3,cd3,ct3,l3,k3⟩:=Yp (d:=JeX) c2 2 rfl rfl (Yf e0 2 rfl)
 obtain⟨oc4,od4,sl4,kV4,dc4,pm4,an4,cd4,ct4,l4,k4⟩:=Yp (d:=Je0) c2 3 rfl rfl (Yf e0 3 rfl)
 obtain⟨oc5,od5,sl5,kV5,dc5,pm5,an5,cd5,ct5,l5,k5⟩:=Yp (d:=JeN) c2 4 rfl rfl (Yf e0 4 rfl)
 obtain⟨oc6,od6,sl6,kV6,dc6,pm6,an6,cd6,ct6,l6,k6⟩:=Yp (d:=JeQ) c2 5 rfl rfl (Yf e0 5 rfl)
 obtain⟨oc7,od7,sl7,kV7,dc7,pm7,an7,cd7,ct7,l7,k7⟩:=Yp (d:=JeO) c2 6 rfl rfl (Yf e0 6 rfl)
 obtain⟨oc8,od8,sl8,kV8,dc8,pm8,an8,cd8,ct8,l8,k8⟩:=Yp (d:=JeT) c2 7 rfl rfl (Yf e0 7 rfl)
 obtain⟨oc9,od9,sl9,kV9,dc9,pm9,an9,cd9,ct9,l9,k9⟩:=Yp (d:=Je6) c2 8 rfl rfl (Yf e0 8 rfl)
 obtain⟨oc10,od10,sl10,kV10,dc10,pm10,an10,cd10,ct10,l10,k10⟩:=Yp (d:=JeI) c2 9 rfl rfl (Yf e0 9 rfl)
 obtain⟨oc11,od11,sl11,kV11,dc11,pm11,an11,cd11,ct11,l11,k11⟩:=Yp (d:=Jd4) c2 10 rfl rfl (Yf e0 10 rfl)
 obtain⟨oc12,od12,sl12,kV12,dc12,pm12,an12,cd12,ct12,l12,k12⟩:=Yp (d:=JeG) c2 11 rfl rfl (Yf e0 11 rfl)
 obtain⟨oc13,od13,sl13,kV13,dc13,pm13,an13,cd13,ct13,l13,k13⟩:=Yp (d:=Jeo) c2 12 rfl rfl (Yf e0 12 rfl)
 obtain⟨oc14,od14,sl14,kV14,dc14,pm14,an14,cd14,ct14,l14,k14⟩:=Yp (d:=JeC) c2 13 rfl rfl (Yf e0 13 rfl)
 obtain⟨oc15,od15,sl15,kV15,dc15,pm15,an15,cd15,ct15,l15,k15⟩:=Yp (d:=Jeu) c2 14 rfl rfl (Yf e0 14 rfl)
 obtain⟨oc16,od16,sl16,kV16,dc16,pm16,an16,cd16,ct16,l16,k16⟩:=Yp (d:=Jev) c2 15 rfl rfl (Yf e0 15 rfl)
 obtain⟨oc17,od17,sl17,kV17,dc17,pm17,an17,cd17,ct17,l17,k17⟩:=Yp (d:=Jeq) c2 16 rfl rfl (Yf e0 16 rfl)
 obtain⟨oc18,od18,sl18,kV18,dc18,pm18,an18,cd18,ct18,l18,k18⟩:=Yp (d:=JeK) c2 17 rfl rfl (Yf e0 17 rfl)
 obtain⟨oc19,od19,sl19,kV19,dc19,pm19,an19,cd19,ct19,l19,k19⟩:=Yp (d:=Jd7) c2 18 rfl rfl (Yf e0 18 rfl)
 obtain⟨oc20,od20,sl20,kV20,dc20,pm20,an20,cd20,ct20,l20,k20⟩:=Yp (d:=Jd0) c2 19 rfl rfl (Yf e0 19 rfl)
 obtain⟨oc21,od21,sl21,kV21,dc21,pm21,an21,cd21,ct21,l21,k21⟩:=Yp (d:=Jez) c2 20 rfl rfl (Yf e0 20 rfl)
 obtain⟨oc22,od22,sl22,kV22,dc22,pm22,an22,cd22,ct22,l22,k22⟩:=Yp (d:=Jef) c2 21 rfl rfl (Yf e0 21 rfl)
 obtain⟨oc23,od23,sl23,kV23,dc23,pm23,an23,cd23,ct23,l23,k23⟩:=Yp (d:=JeA) c2 22 rfl rfl (Yf e0 22 rfl)
 have a1:=Jq q0 0 rfl
 have p1:=Jq q0 1 rfl
 have a2:=Jq q0 2 rfl
 have p2:=Jq q0 3 rfl
 have a3:=Jq q0 4 rfl
 have p3:=Jq q0 5 rfl
 have a4:=Jq q0 6 rfl
 have p4:=Jq q0 7 rfl
 have a5:=Jq q0 8 rfl
 have p5:=Jq q0 9 rfl
 have a6:=Jq q0 10 rfl
 have p6:=Jq q0 11 rfl
 have a7:=Jq q0 12 rfl
 have p7:=Jq q0 13 rfl
 have a8:=Jq q0 14 rfl
 have p8:=Jq q0 15 rfl
 have a9:=Jq q0 16 rfl
 have p9:=Jq q0 17 rfl
 have a10:=Jq q0 18 rfl
 have p10:=Jq q0 19 rfl
 have a11:=Jq q0 20 rfl
 have p11:=Jq q0 21 rfl
 have a12:=Jq q0 22 rfl
 have p12:=Jq q0 23 rfl
 have a13:=Jq q0 24 rfl
 have p13:=Jq q0 25 rfl
 have a14:=Jq q0 26 rfl
 have p14:=Jq q0 27 rfl
 have a15:=Jq q0 28 rfl
 have p15:=Jq q0 29 rfl
 have a16:=Jq q1 0 rfl
 have p16:=Jq q1 1 rfl
 have a17:=Jq q1 2 rfl
 have p17:=Jq q1 3 rfl
 have a18:=Jq q1 4 rfl
 have p18:=Jq q1 5 rfl
 have a19:=Jq q1 6 rfl
 have p19:=Jq q1 7 rfl
 have a20:=Jq q1 8 rfl
 have p20:=Jq q1 9 rfl
 have a21:=Jq q1 10 rfl
 have p21:=Jq q1 11 rfl
 have a22:=Jq q1 12 rfl
 have p22:=Jq q1 13 rfl
 have a23:=Jq q1 14 rfl
 have p23:=Jq q1 15 rfl
 have w_len:=Jq q1 16 rfl
 have w_abs:=Jq q1 17 rfl
 have w_int:=Jq q1 18 rfl
 have w_min:=Jq q1 19 rfl
 have w_range:=Jq q1 20 rfl
 have w_dict:=Jq q1 21 rfl
 have w_sorted:=Jq q1 22 rfl
 have w_list:=Jq q1 23 rfl
 have w_tuple:=Jq q1 24 rfl
 have w_isinstance:=Jq q1 25 rfl
 have w_bool:=Jq q1 26 rfl
 have w_str:=Jq q1 27 rfl
 have w_set:=Jq q1 28 rfl
 have w_all:=Jq q1 29 rfl
 refine⟨K,X,?_⟩
 have e:=hfa.symm.trans (PySem.W.mg_of X G a23)
 cases e
 have F1:=fun_mk (st:=Yg) l1 k1 p1
 have b1:=F1.binds (ps:=["_law_script", "_law_k"]) fun _ _ _ _ _ _ us hl=>match us,hl with | [_,_],_=>rfl
 have F2:=fun_mk (st:=Yj) l2 k2 p2
 have b2:=F2.binds (ps:=["_law_tape_here", "_law_many"]) fun _ _ _ _ _ _ us hl=>match us,hl with | [_,_],_=>rfl
 have F3:=fun_mk (st:=JW) l3 k3 p3
 have b3:=F3.binds (ps:=["_law_tape_here"]) fun _ _ _ _ _ _ us hl=>match us,hl with | [_],_=>rfl
 have F4:=fun_mk (st:=Yh) l4 k4 p4
 have b4:=F4.binds (ps:=["_law_tape_here"]) fun _ _ _ _ _ _ us hl=>match us,hl with | [_],_=>rfl
 have F5:=fun_mk (st:=JD) l5 k5 p5
 have b5:=F5.binds (ps:=["_law_tape_here", "_law_names_here", "_law_turn_here"]) fun _ _ _ _ _ _ us hl=>match us,hl with | [_,_,_],_=>rfl
 have F6:=fun_mk (st:=Jw) l6 k6 p6
 have b6:=F6.binds (ps:=["_law_names_here", "_law_joinings_here"]) fun _ _ _ _ _ _ us hl=>match us,hl with | [_,_],_=>rfl
 have F7:=fun_mk (st:=JL) l7 k7 p7
 have b7:=F7.binds (ps:=["_law_names_here", "_law_joinings_here"]) fun _ _ _ _ _ _ us hl=>match us,hl with | [_,_],_=>rfl
 have F8:=fun_mk (st:=Yk) l8 k8 p8
 have b8:=F8.binds (ps:=["_law_tape_here", "_law_names_here", "_law_joinings_here", "_law_turn_here"]) fun _ _ _ _ _ _ us hl=>match us,hl with | [_,_,_,_],_=>rfl
 have F9:=fun_mk (st:=Yz) l9 k9 p9
 have b9:=F9.binds (ps:=["_law_tape_here"]) fun _ _ _ _ _ _ us hl=>match us,hl with | [_],_=>rfl
 have F10:=fun_mk (st:=Yl) l10 k10 p10
 have b10:=F10.binds (ps:=["_law_tape_here", "_law_some", "_law_thing"]) fun _ _ _ _ _ _ us hl=>match us,hl with | [_,_,_],_=>rfl
 have F11:=fun_mk (st:=YU) l11 k11 p11
 have b11:=F11.binds (ps:=["thing"]) fun _ _ _ _ _ _ us hl=>match us,hl with | [_],_=>rfl
 have F12:=fun_mk (st:=Yi) l12 k12 p12
 have b12:=F12.binds (ps:=["thing", "many"]) fun _ _ _ _ _ _ us hl=>match us,hl with | [_,_],_=>rfl
 have F13:=fun_mk (st:=YC) l13 k13 p13
 have b13:=F13.binds (ps:=["thing"]) fun _ _ _ _ _ _ us hl=>match us,hl with | [_],_=>rfl
 have F14:=fun_mk (st:=YB) l14 k14 p14
 have b14:=F14.binds (ps:=["names", "thing"]) fun _ _ _ _ _ _ us hl=>match us,hl with | [_,_],_=>rfl
 have F15:=fun_mk (st:=Yc) l15 k15 p15
 have b15:=F15.binds (ps:=["some"]) fun _ _ _ _ _ _ us hl=>match us,hl with | [_],_=>rfl
 have F16:=fun_mk (st:=JM) l16 k16 p16
 have b16:=F16.binds (ps:=["names", "thing"]) fun _ _ _ _ _ _ us hl=>match us,hl with | [_,_],_=>rfl
 have F17:=fun_mk (st:=YV) l17 k17 p17
 have b17:=F17.binds (ps:=["turn", "n"]) fun _ _ _ _ _ _ us hl=>match us,hl with | [_,_],_=>rfl
 have F18:=fun_mk (st:=Jz) l18 k18 p18
 have b18:=F18.binds (ps:=["names", "joinings", "turn", "rows"]) fun _ _ _ _ _ _ us hl=>match us,hl with | [_,_,_,_],_=>rfl
 have F19:=fun_mk (st:=JT) l19 k19 p19
 have b19:=F19.binds (ps:=["_law_thing"]) fun _ _ _ _ _ _ us hl=>match us,hl with | [_],_=>rfl
 have F20:=fun_mk (st:=JN) l20 k20 p20
 have b20:=F20.binds (ps:=["_law_turn_here", "_law_n"]) fun _ _ _ _ _ _ us hl=>match us,hl with | [_,_],_=>rfl
 have F21:=fun_mk (st:=Yo) l21 k21 p21
 have b21:=F21.binds (ps:=["_law_names_here", "_law_joinings_here", "_law_turn_here", "_law_rows_here"]) fun _ _ _ _ _ _ us hl=>match us,hl with | [_,_,_,_],_=>rfl
 have F22:=fun_mk (st:=Yd) l22 k22 p22
 have b22:=F22.binds (ps:=["_law_names_here", "_law_joinings_here", "_law_turn_here", "_law_rows_here"]) fun _ _ _ _ _ _ us hl=>match us,hl with | [_,_,_,_],_=>rfl
 have F23:=fun_mk (st:=Ze) l23 k23 p23
 have z_len:=PySem.W.mg_none_of X G w_len
 have z_abs:=PySem.W.mg_none_of X G w_abs
 have z_int:=PySem.W.mg_none_of X G w_int
 have z_min:=PySem.W.mg_none_of X G w_min
 have z_range:=PySem.W.mg_none_of X G w_range
 have z_dict:=PySem.W.mg_none_of X G w_dict
 have z_sorted:=PySem.W.mg_none_of X G w_sorted
 have z_list:=PySem.W.mg_none_of X G w_list
 have z_tuple:=PySem.W.mg_none_of X G w_tuple
 have z_isinstance:=PySem.W.mg_none_of X G w_isinstance
 have z_bool:=PySem.W.mg_none_of X G w_bool
 have z_str:=PySem.W.mg_none_of X G w_str
 have z_set:=PySem.W.mg_none_of X G w_set
 have z_all:=PySem.W.mg_none_of X G w_all
 refine⟨PySem.W.fnOf "law" "law" (defArgs Ze) (defBody Ze) (defScope Ze) .none kV23 dc23 pm23 an23 cd23 ct23,fun s v=>.of_eq rfl,fun base _ _=>?_⟩
 have d__law_tape:Fd PySem.Challenge.rw_joinback_k07_numbers_shown.prog w K mg base 1 "_law_tape" ["_law_script", "_law_k"] [false,false] Un:=Us F1 (PySem.W.mg_of X G a1) b1 (ok__law_tape F1 z_len z_abs z_int)
 have d__law_draw:Fd PySem.Challenge.rw_joinback_k07_numbers_shown.prog w K mg base 1 "_law_draw" ["_law_tape_here", "_law_many"] [true,false] Je:=Us F2 (PySem.W.mg_of X G a2) b2 (ok__law_draw F2 )
 have d__law_names:Fd PySem.Challenge.rw_joinback_k07_numbers_shown.prog w K mg base 2 "_law_names" ["_law_tape_here"] [true] YW:=Us F3 (PySem.W.mg_of X G a3) b3 (ok__law_names F3 z_min z_range d__law_draw)
 have d__law_turn:Fd PySem.Challenge.rw_joinback_k07_numbers_shown.prog w K mg base 2 "_law_turn" ["_law_tape_here"] [true] Uk:=Us F4 (PySem.W.mg_of X G a4) b4 (ok__law_turn F4 d__law_draw)
 have d__law_joinings:Fd PySem.Challenge.rw_joinback_k07_numbers_shown.prog w K mg base 2 "_law_joinings" ["_law_tape_here", "_law_names_here", "_law_turn_here"] [true,false,false] Ym:=Us F5 (PySem.W.mg_of X G a5) b5 (ok__law_joinings F5 z_dict z_len z_range d__law_draw)
 have d__law_classes:Fd PySem.Challenge.rw_joinback_k07_numbers_shown.prog w K mg base 1 "_law_classes" ["_law_names_here", "_law_joinings_here"] [false,false] JO:=Us F6 (PySem.W.mg_of X G a6) b6 (ok__law_classes F6 z_sorted)
 have d__law_numbers:Fd PySem.Challenge.rw_joinback_k07_numbers_shown.prog w K mg base 2 "_law_numbers" ["_law_names_here", "_law_joinings_here"] [false,false] YT:=Us F7 (PySem.W.mg_of X G a7) b7 (ok__law_numbers F7 d__law_classes)
 have d__law_rows:Fd PySem.Challenge.rw_joinback_k07_numbers_shown.prog w K mg base 3 "_law_rows" ["_law_tape_here", "_law_names_here", "_law_joinings_here", "_law_turn_here"] [true,false,false,false] UC:=Us F8 (PySem.W.mg_of X G a8) b8 (ok__law_rows F8 z_len d__law_numbers d__law_classes d__law_draw)
 have d__law_odd:Fd PySem.Challenge.rw_joinback_k07_numbers_shown.prog w K mg base 2 "_law_odd" ["_law_tape_here"] [true] Ub:=Us F9 (PySem.W.mg_of X G a9) b9 (ok__law_odd F9 z_len d__law_draw)
 have d__law_bent:Fd PySem.Challenge.rw_joinback_k07_numbers_shown.prog w K mg base 2 "_law_bent" ["_law_tape_here", "_law_some", "_law_thing"] [true,false,true] Uo:=Us F10 (PySem.W.mg_of X G a10) b10 (ok__law_bent F10 z_len d__law_draw)
 have d_is_list:Fd PySem.Challenge.rw_joinback_k07_numbers_shown.prog w K mg base 1 "is_list" ["thing"] [false] Yn:=Us F11 (PySem.W.mg_of X G a11) b11 (ok_is_list F11 z_list z_tuple z_isinstance)
 have d_is_row_of:Fd PySem.Challenge.rw_joinback_k07_numbers_shown.prog w K mg base 1 "is_row_of" ["thing", "many"] [false,false] Yb:=Us F12 (PySem.W.mg_of X G a12) b12 (ok_is_row_of F12 z_tuple z_isinstance z_len)
 have d_is_whole:Fd PySem.Challenge.rw_joinback_k07_numbers_shown.prog w K mg base 1 "is_whole" ["thing"] [false] Yy:=Us F13 (PySem.W.mg_of X G a13) b13 (ok_is_whole F13 z_int z_isinstance z_bool)
 have d_is_named:Fd PySem.Challenge.rw_joinback_k07_numbers_shown.prog w K mg base 1 "is_named" ["names", "thing"] [false,false] Yx:=Us F14 (PySem.W.mg_of X G a14) b14 (ok_is_named F14 z_str z_isinstance)
 have d_are_unlike:Fd PySem.Challenge.rw_joinback_k07_numbers_shown.prog w K mg base 1 "are_unlike" ["some"] [false] Uu:=Us F15 (PySem.W.mg_of X G a15) b15 (ok_are_unlike F15 z_len z_set)
 have d_are_some_of:Fd PySem.Challenge.rw_joinback_k07_numbers_shown.prog w K mg base 2 "are_some_of" ["names", "thing"] [false,false] JU:=Us F16 (PySem.W.mg_of X G a16) b16 (ok_are_some_of F16 z_all d_is_list d_is_named d_are_unlike)
 have d_counted:Fd PySem.Challenge.rw_joinback_k07_numbers_shown.prog w K mg base 1 "counted" ["turn", "n"] [false,false] Uh:=Us F17 (PySem.W.mg_of X G a17) b17 (ok_counted F17 )
 have d_shows_numbers:Fd PySem.Challenge.rw_joinback_k07_numbers_shown.prog w K mg base 3 "shows_numbers" ["names", "joinings", "turn", "rows"] [false,false,false,false] YK:=Us F18 (PySem.W.mg_of X G a18) b18 (ok_shows_numbers F18 z_all z_len z_dict d_is_list d_is_row_of d_is_whole d_are_some_of d_counted)
 have d__law_is_int:Fd PySem.Challenge.rw_joinback_k07_numbers_shown.prog w K mg base 1 "_law_is_int" ["_law_thing"] [false] YL:=Us F19 (PySem.W.mg_of X G a19) b19 (ok__law_is_int F19 z_int z_isinstance z_bool)
 have d__law_counted:Fd PySem.Challenge.rw_joinback_k07_numbers_shown.prog w K mg base 1 "_law_counted" ["_law_turn_here", "_law_n"] [false,false] JX:=Us F20 (PySem.W.mg_of X G a20) b20 (ok__law_counted F20 )
 have d__law_due:Fd PySem.Challenge.rw_joinback_k07_numbers_shown.prog w K mg base 2 "_law_due" ["_law_names_here", "_law_joinings_here", "_law_turn_here", "_law_rows_here"] [false,false,false,false] UN:=Us F21 (PySem.W.mg_of X G a21) b21 (ok__law_due F21 z_list z_tuple z_isinstance z_len z_str z_sorted z_all d__law_is_int d__law_counted)
 have d__law_says:FdG PySem.Challenge.rw_joinback_k07_numbers_shown.prog w K mg base 4 "_law_says" ["_law_names_here", "_law_joinings_here", "_law_turn_here", "_law_rows_here"] [false,false,false,false] YO:=fdg_mk F22 (PySem.W.mg_of X G a22) b22 (ok__law_says F22 z_str z_bool z_isinstance d_shows_numbers d__law_due)
 exact law_impG (ok_law F23 z_len z_min z_range z_tuple z_all d__law_tape d__law_names d__law_turn d__law_joinings d__law_rows d__law_draw d__law_odd d__law_bent d__law_says) fun ns h1 h2=>v_law ns h1
end VS
open PySem PySem.W PyProof.Rows
set_option maxRecDepth 100000 in
set_option maxHeartbeats 0 in
theorem PySem.Challenge.cw_joinback_k07_numbers_shown_holds : PySem.Challenge.rw_joinback_k07_numbers_shown.Holds := by
 w_on;o_law
 refine HandSHeadRun.head_any (r:=PySem.W.OpenLaw.row PySem.Challenge.rw_joinback_k07_numbers_shown) (q:=VS.qvZ) (H:=VS.hkZ) (ob:=VS.obT VS.asZ VS.obZ) (M:=6000) (loose:=VS.loZ) (d:=HandSHeadRun.topDef VS.RZ.prog 26) (kwd:=[]) (fun s=>VS.obT_eq s) (by kernel_rfl) (fun s=>by kernel_rfl) VS.runZ (by kernel_rfl) (by kernel_rfl) (by kernel_rfl) (by rfl) (by first | assumption | decide +kernel) (by decide +kernel) ⟨rfl,rfl,rfl,rfl,rfl,by decide +kernel⟩ ?hw ?hc
 case hw=>w_witness2
 case hc =>
  refine VS.walkGE (l:=PySem.Challenge.rw_joinback_k07_numbers_shown) (k:=5) (x := "_law_script") rfl (by kernel_rfl) ⟨rfl,by decide,by decide⟩ ?F
  case F =>
   intro w mg fa h Y G hmg0
   have hmg:mg ("law" : PySem.Str)=some (.ref fa):=by
    have e:(HandSHeadRun.topDef VS.RZ.prog 26).name=("law" : PySem.Str):=by kernel_rfl
    rw[←e]
    exact hmg0
   exact VS.endZ Y G hmg

